import Derived.Test.YtgopfdninbknpaaGreatP09d
namespace Go.Proofs.YtgopfdninbknpaaGreat
open Go.Fw
set_option linter.unusedVariables false
set_option linter.unusedSimpArgs false
set_option maxHeartbeats 4000000 in
set_option maxRecDepth 8000 in
theorem spec_l09Resize0 (n1 n2 n3 : Option Bool) (f : DFS) (i : Int) (hs : SmF f) (hi : 0 ≤ i ∧ i < 20) (hn : f.inodes.length = 20) (hd : f.data.length = 56) (hb : ∀ b ∈ (inodeAt f i).blocks, b ≠ -1 → 0 ≤ b ∧ b < 56) : Snd Tryz.prog 138 [fFS n1 n2 n3 f, .int .i64 i, .int .i64 0] (rFS ⟨f.tick, f.quotas, f.inodes.set i.toNat { inodeAt f i with blocks := [], size := 0 }, zeroR f.data (real (inodeAt f i).blocks)⟩) [.unk, .unk, .unk] := Runs.snd (M := M) (c := ⟨3, [3, 6, 7, 8, 9, 10, 11, 26, 36, 67, 91], [], [(1, [0, 1, 2, 3, 6, 7, 8, 9, 11, 26, 36, 67, 91])]⟩) tok ks mixed Tryz.func138 (p := []) (by kernel_rfl) (by rfl) (by rfl) <| by
 obtain ⟨k, rfl⟩ := Int.eq_ofNat_of_zero_le hi.1
 have hlt : k < f.inodes.length := by omega
 have he := inodeAt_nat hlt
 have hsn := hs.inode _ (List.getElem_mem hlt)
 have hsb := hsn.blocks
 rw [he] at hb ⊢
 (try simp -implicitDefEqProofs (disch := first | exact dd | fail) [Tryz.f138, hlt, cInode]); (repeat' ((with_reducible first | (refine Br.out ?_ ?_ <;> intro h <;> (try (have h0 := h; simp only [bH] at h))) | refine AC_snd (spec_l08Copy _ _ _ f hs) ?_ | refine AC_snd (spec_l07Copy _ _ _ f.inodes[k] hsn) ?_ | refine AC_snd (spec_BlocksNeeded _ (by omega)) ?_ | fail) <;> (try simp -implicitDefEqProofs (disch := first | exact dd | fail) [Tryz.f138, hlt, cInode])))
 have hbn : blocksNeeded 0 = 0 := rfl
 rw [hbn]
 have hr : (f.inodes.map cInode).set k [.int .i64 f.inodes[k].kind, .int .i64 f.inodes[k].mode, .int .i64 f.inodes[k].uid, .int .i64 f.inodes[k].gid, .int .i64 f.inodes[k].links, .int .i64 0, .int .i64 f.inodes[k].tick, .row 1 [], .row 3 (f.inodes[k].acl.map cAcl), .row 3 (f.inodes[k].dflt.map cAcl)] = (f.inodes.set k { f.inodes[k] with blocks := [], size := 0 }).map cInode := by
  rw [List.map_set]
  rfl
 generalize hG : f.inodes.set k ({ f.inodes[k] with blocks := [], size := 0 } : DInode) = G at hr ⊢
 have hGl : G.length = f.inodes.length := by rw [← hG, List.length_set]
 clear hG
 generalize hx : f.inodes[k] = x at *
 refine AL_up (fun m => m) (fun _ => []) (fun m => [(904, .row 1 ((zeroR f.data (real (x.blocks.drop m))).map cs) []), (1024, .box [.int .i64 x.kind, .int .i64 x.mode, .int .i64 x.uid, .int .i64 x.gid, .int .i64 x.links, .int .i64 x.size, .int .i64 x.tick, .ref 1040 none 1 0 m none, .ref 1042 none 3 0 x.acl.length none, .ref 1044 none 3 0 x.dflt.length none])]) (fun m => m ≤ x.blocks.length) x.blocks.length (by simp [real, zeroR]) (Nat.le_refl _) ?_
 intro m n hm ih
 have hzl := fun b => zeroR_len (data := f.data) (bs := b)
 rcases m with _ | m
 ·(try simp -implicitDefEqProofs (disch := first | exact dd | fail) [Tryz.f138, hlt, hx, cInode]); (repeat' ((with_reducible first | (refine Br.out ?_ ?_ <;> intro h <;> (try (have h0 := h; simp only [bH] at h))) | fail) <;> (try simp -implicitDefEqProofs (disch := first | exact dd | fail) [Tryz.f138, hlt, hx, cInode])))
  all_goals
   refine AL_up (ι := Unit) (fun _ => 0) (fun _ => []) (fun _ => []) (fun _ => True) () rfl trivial (fun _ n _ _ => ?_)
   by_cases hbe : x.blocks = []
   ·(try simp -implicitDefEqProofs (disch := first | exact dd | fail) [Tryz.f138, hlt, hx, hr, hzl, hGl, hbe, cInode]); (repeat' ((with_reducible first | (refine Br.out ?_ ?_ <;> intro h <;> (try (have h0 := h; simp only [bH] at h))) | fail) <;> (try simp -implicitDefEqProofs (disch := first | exact dd | fail) [Tryz.f138, hlt, hx, hr, hzl, hGl, hbe, cInode])))
   ·(try simp -implicitDefEqProofs (disch := first | exact dd | fail) [Tryz.f138, hlt, hx, hr, hzl, hGl, hbe, cInode]); (repeat' ((with_reducible first | (refine Br.out ?_ ?_ <;> intro h <;> (try (have h0 := h; simp only [bH] at h))) | fail) <;> (try simp -implicitDefEqProofs (disch := first | exact dd | fail) [Tryz.f138, hlt, hx, hr, hzl, hGl, hbe, cInode])))
 ·have hj := ih m (by omega) (by omega)
  have hz := zeroR_drop (data := f.data) (bs := x.blocks) (m := m) (by omega)
  rw [hz] at hj
  have hmt : m < x.blocks.length := by omega
  have hzm := hzl (real (x.blocks.drop (m + 1)))
  by_cases hbm : x.blocks[m] = -1
  ·rw [if_pos hbm] at hj
   (try simp -implicitDefEqProofs (disch := first | exact dd | fail) [Tryz.f138, hmt, hbm, cInode]); (repeat' ((with_reducible first | (refine Br.out ?_ ?_ <;> intro h <;> (try (have h0 := h; simp only [bH] at h))) | fail) <;> (try simp -implicitDefEqProofs (disch := first | exact dd | fail) [Tryz.f138, hmt, hbm, cInode])))
   all_goals first | exact hj
  ·rw [if_neg hbm] at hj
   have hbr := hb _ (List.getElem_mem hmt) hbm
   obtain ⟨j, hj2⟩ := Int.eq_ofNat_of_zero_le hbr.1
   have hb' : ¬ (j : Int) = -1 := by omega
   have hset : (List.map cs (zeroR f.data (real (x.blocks.drop (m + 1))))).set j [.str zero32] = List.map cs ((zeroR f.data (real (x.blocks.drop (m + 1)))).set j zero32) := by
    rw [List.map_set]
    rfl
   rw [hj2, Int.toNat_natCast, ← hset] at hj
   have hget : ∃ s, (List.map cs (zeroR f.data (real (x.blocks.drop (m + 1)))))[j]? = some [.str s] := ⟨_, by rw [List.getElem?_map, List.getElem?_eq_getElem (by omega)]; rfl⟩
   obtain ⟨s0, hget⟩ := hget
   generalize List.map cs (zeroR f.data (real (x.blocks.drop (m + 1)))) = Z at *
   (try simp -implicitDefEqProofs (disch := first | exact dd | fail) [Tryz.f138, hmt, hj2, hb', hget, cInode]); (repeat' ((with_reducible first | (refine Br.out ?_ ?_ <;> intro h <;> (try (have h0 := h; simp only [bH] at h))) | refine AC_snd (spec_PadTo0) ?_ | fail) <;> (try simp -implicitDefEqProofs (disch := first | exact dd | fail) [Tryz.f138, hmt, hj2, hb', hget, cInode])))
   all_goals first | exact hj
end Go.Proofs.YtgopfdninbknpaaGreat
