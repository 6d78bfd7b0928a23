import Derived.Test.YtgopfdninbknpaaGreatP09e
namespace Go.Proofs.YtgopfdninbknpaaGreat
open Go.Fw
set_option linter.unusedVariables false
set_option linter.unusedSimpArgs false
set_option maxHeartbeats 4000000 in
set_option maxRecDepth 8000 in
theorem spec_l09Free (n1 n2 n3 : Option Bool) (f : DFS) (i : Int) (hs : SmF f) (hi : 0 ≤ i ∧ i < 20) (hn : f.inodes.length = 20) (hd : f.data.length = 56) (hb : ∀ b ∈ (inodeAt f i).blocks, b ≠ -1 → 0 ≤ b ∧ b < 56) : Snd Tryz.prog 207 [fFS n1 n2 n3 f, .int .i64 i] (rFS (freeF f i)) [.unk, .unk] := Runs.snd (M := M) (c := ⟨2, [2, 4, 5], [], []⟩) tok ks mixed Tryz.func207 (p := []) (by kernel_rfl) (by rfl) (by rfl) <| by
 have hc := spec_l09Resize0 n1 n2 n3 f i hs hi hn hd hb
 obtain ⟨k, rfl⟩ := Int.eq_ofNat_of_zero_le hi.1
 have hk : k < f.inodes.length := by omega
 have hr := free_row (f := ⟨f.tick, f.quotas, f.inodes.set k { inodeAt f k with blocks := [], size := 0 }, f.data⟩) (k := k)
 simp only [List.set_set] at hr
 simp only [Int.toNat_natCast] at hc
 unfold freeF
 simp only [Int.toNat_natCast]
 have hzl := zeroR_len (data := f.data) (bs := real (inodeAt f k).blocks)
 have hl1 : (f.inodes.set k ({ inodeAt f k with blocks := [], size := 0 } : DInode)).length = f.inodes.length := by rw [List.length_set]
 have hl2 : (f.inodes.set k zeroInode).length = f.inodes.length := by rw [List.length_set]
 generalize f.inodes.set k ({ inodeAt f k with blocks := [], size := 0 } : DInode) = G at *
 generalize f.inodes.set k zeroInode = G2 at *
 generalize zeroR f.data (real (inodeAt f k).blocks) = D at *
 have hkg : k < G.length := by omega
 have hl3 : G2.length = G.length := by omega
 (try simp -implicitDefEqProofs (disch := first | exact dd | fail) [Tryz.f207, hkg, hr, hl3, cInode]); (repeat' ((with_reducible first | (refine Br.out ?_ ?_ <;> intro h <;> (try (have h0 := h; simp only [bH] at h))) | refine AC_snd (hc) ?_ | fail) <;> (try simp -implicitDefEqProofs (disch := first | exact dd | fail) [Tryz.f207, hkg, hr, hl3, cInode])))
end Go.Proofs.YtgopfdninbknpaaGreat
