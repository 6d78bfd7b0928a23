import Derived.Test.YtgopfdninbknpaaGreatM11
import Derived.Test.YtgopfdninbknpaaGreatP12
namespace Go.Proofs.YtgopfdninbknpaaGreat
open Go.Fw
set_option linter.unusedVariables false
set_option linter.unusedSimpArgs false
theorem free_row {f : DFS} {k : Nat} : (f.inodes.map cInode).set k [.int .i64 0, .int .i64 0, .int .i64 0, .int .i64 0, .int .i64 0, .int .i64 0, .int .i64 0, .row 1 [], .row 3 [], .row 3 []] = (f.inodes.set k zeroInode).map cInode := by
 rw [List.map_set]
 rfl
set_option maxHeartbeats 4000000 in
set_option maxRecDepth 8000 in
theorem impl_free (f : DFS) (i : Int) (hs : SmF f) (hi : 0 ≤ i ∧ i < 20) (hn : f.inodes.length = 20) (h0 : ¬ i = 0) (hd : f.data.length = 56) (hb : ∀ b ∈ (inodeAt f i).blocks, b ≠ -1 → 0 ≤ b ∧ b < 56) : Snd Tryz.prog 188 [wFS f, .int .i64 i] (.int .i64 0) [wFS (freeF f i), .unk] := Runs.snd (M := M) (c := ⟨2, [4, 6, 8, 16, 17, 18, 19], [], [(1, [0, 1, 4, 8, 16, 17, 18, 19])]⟩) tok ks mixed Tryz.func188 (p := [0]) (by kernel_rfl) (by rfl) (by rfl) <| by
 obtain ⟨k, rfl⟩ := Int.eq_ofNat_of_zero_le hi.1
 have hlt : k < f.inodes.length := by omega
 have he := inodeAt_nat hlt
 have hk0 : ¬ k = 0 := by omega
 have hr := free_row (f := f) (k := k)
 rw [he] at hb
 have hsn := hs.inode _ (List.getElem_mem hlt)
 have hsb := hsn.blocks
 have hrl := real_len (l := f.inodes[k].blocks)
 have hbr : ∀ b ∈ real f.inodes[k].blocks, 0 ≤ b ∧ b < 56 := fun b hm => hb b (mem_real.1 hm).1 (mem_real.1 hm).2
 unfold freeF
 rw [he]
 (try simp -implicitDefEqProofs (disch := first | exact dd | fail) [Tryz.f188, hlt, hk0, cInode]); (repeat' ((with_reducible first | (refine Br.out ?_ ?_ <;> intro h <;> (try (have h0 := h; simp only [bH] at h))) | refine AC_snd (impl_UsedBlocks _ _ _ f.inodes[k] hsn) ?_ | fail) <;> (try simp -implicitDefEqProofs (disch := first | exact dd | fail) [Tryz.f188, hlt, hk0, cInode])))
 obtain ⟨B, hB⟩ : ∃ B, B = real f.inodes[k].blocks := ⟨_, rfl⟩
 rw [← hB] at hbr hrl ⊢
 refine AL_fors (σ := Unit) 18 B.length (fun _ _ => []) (fun j _ => [(8, .row 1 ((zeroR f.data (B.take j)).map cs) [])]) (fun _ _ => True) () rfl trivial (fun j _ n hjt _ jh => ?_) (fun _ n _ => ?_)
 ·have hbj := hbr _ (List.getElem_mem hjt)
  have hz := zeroR_take (data := f.data) hjt
  have hzl := zeroR_len (data := f.data) (bs := B.take j)
  have hj := jh () trivial
  obtain ⟨m, hm⟩ := Int.eq_ofNat_of_zero_le hbj.1
  rw [hm] at hz
  have hset : (List.map cs (zeroR f.data (B.take j))).set m [.str zero32] = List.map cs (zeroR f.data (B.take (j + 1))) := by
   rw [hz, List.map_set]
   rfl
  rw [← hset] at hj
  have hget : ∃ s, (List.map cs (zeroR f.data (B.take j)))[m]? = some [.str s] := ⟨_, by rw [List.getElem?_map, List.getElem?_eq_getElem (by omega)]; rfl⟩
  obtain ⟨s0, hget⟩ := hget
  generalize List.map cs (zeroR f.data (B.take j)) = Z at *
  (try simp -implicitDefEqProofs (disch := first | exact dd | fail) [Tryz.f188, hjt, hm, hget]); (repeat' ((with_reducible first | (refine Br.out ?_ ?_ <;> intro h <;> (try (have h0 := h; simp only [bH] at h))) | refine AC_snd (impl_zeros32) ?_ | fail) <;> (try simp -implicitDefEqProofs (disch := first | exact dd | fail) [Tryz.f188, hjt, hm, hget])))
  exact hj
 ·rw [List.take_length]
  have hzl := zeroR_len (data := f.data) (bs := B)
  (try simp -implicitDefEqProofs (disch := first | exact dd | fail) [Tryz.f188, hlt, hr, hzl, cInode]); (repeat' ((with_reducible first | (refine Br.out ?_ ?_ <;> intro h <;> (try (have h0 := h; simp only [bH] at h))) | fail) <;> (try simp -implicitDefEqProofs (disch := first | exact dd | fail) [Tryz.f188, hlt, hr, hzl, cInode])))
end Go.Proofs.YtgopfdninbknpaaGreat
