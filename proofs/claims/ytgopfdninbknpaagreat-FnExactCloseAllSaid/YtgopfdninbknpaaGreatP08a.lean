import Derived.Test.YtgopfdninbknpaaGreatP07a
import Derived.Test.YtgopfdninbknpaaGreatM11
import Derived.Test.YtgopfdninbknpaaGreatBx
namespace Go.Proofs.YtgopfdninbknpaaGreat
open Go.Fw
set_option linter.unusedVariables false
set_option linter.unusedSimpArgs false
set_option maxHeartbeats 4000000 in
theorem impl_copyInode (n1 n2 n3 : Option Bool) (x : DInode) (hs : SmI x) : Snd Tryz.prog 158 [fInode n1 n2 n3 x] (rInode x) [.unk] := Runs.snd (M := M) (c := ⟨1, [1, 2], [], []⟩) tok ks mixed Tryz.func158 (p := []) (by kernel_rfl) (by rfl) (by rfl) <| by
 (try simp -implicitDefEqProofs (disch := first | exact dd | fail) [Tryz.f158]); (repeat' ((with_reducible first | (refine Br.out ?_ ?_ <;> intro h <;> (try (have h0 := h; simp only [bH] at h))) | refine AC_snd (slices_CloneInt _ x.blocks hs.blocks) ?_ | refine AC_snd (slices_CloneAcl _ x.acl hs.acl) ?_ | refine AC_snd (slices_CloneAcl _ x.dflt hs.dflt) ?_ | fail) <;> (try simp -implicitDefEqProofs (disch := first | exact dd | fail) [Tryz.f158])))
theorem spec_l05Copy (n1 : Option Bool) (l : List DAcl) (hl : l.length ≤ 1048576) : Snd Tryz.prog 149 [.frz 3 n1 (l.map cAcl)] (.row 3 (l.map cAcl)) [.unk] := Runs.snd (M := M) (c := ⟨1, [2], [], []⟩) tok ks mixed Tryz.func149 (p := []) (by kernel_rfl) (by rfl) (by rfl) <| by
 (try simp -implicitDefEqProofs (disch := first | exact dd | fail) [Tryz.f149]); (repeat' ((with_reducible first | (refine Br.out ?_ ?_ <;> intro h <;> (try (have h0 := h; simp only [bH] at h))) | fail) <;> (try simp -implicitDefEqProofs (disch := first | exact dd | fail) [Tryz.f149])))
set_option maxHeartbeats 4000000 in
theorem spec_l07Copy (n1 n2 n3 : Option Bool) (x : DInode) (hs : SmI x) : Snd Tryz.prog 144 [fInode n1 n2 n3 x] (rInode x) [.unk] := Runs.snd (M := M) (c := ⟨1, [1, 2], [], []⟩) tok ks mixed Tryz.func144 (p := []) (by kernel_rfl) (by rfl) (by rfl) <| by
 have k1 := hs.blocks
 (try simp -implicitDefEqProofs (disch := first | exact dd | fail) [Tryz.f144]); (repeat' ((with_reducible first | (refine Br.out ?_ ?_ <;> intro h <;> (try (have h0 := h; simp only [bH] at h))) | refine AC_snd (spec_l05Copy _ x.acl hs.acl) ?_ | refine AC_snd (spec_l05Copy _ x.dflt hs.dflt) ?_ | fail) <;> (try simp -implicitDefEqProofs (disch := first | exact dd | fail) [Tryz.f144])))
set_option maxHeartbeats 4000000 in
set_option maxRecDepth 8000 in
theorem impl_copyFS (n1 n2 n3 : Option Bool) (f : DFS) (hs : SmF f) : Snd Tryz.prog 77 [fFS n1 n2 n3 f] (rFS f) [.unk] := Runs.snd (M := M) (c := ⟨1, [1, 2, 3, 5, 16, 17, 18, 19], [], [(1, [0, 1, 2, 3, 16, 17, 18, 19])]⟩) tok ks mixed Tryz.func77 (p := []) (by kernel_rfl) (by rfl) (by rfl) <| by
 have k1 := hs.quotas
 have k2 := hs.inodes
 have k3 := hs.data
 (try simp -implicitDefEqProofs (disch := first | exact dd | fail) [Tryz.f77]); (repeat' ((with_reducible first | (refine Br.out ?_ ?_ <;> intro h <;> (try (have h0 := h; simp only [bH] at h))) | refine AC_snd (slices_CloneQuota _ f.quotas k1) ?_ | refine AC_snd (slices_CloneStr _ f.data k3) ?_ | fail) <;> (try simp -implicitDefEqProofs (disch := first | exact dd | fail) [Tryz.f77])))
 refine AL_fors (σ := Unit) 18 f.inodes.length (fun _ _ => []) (fun i _ => if i = 0 then [] else [(384, .box [.int .i64 f.tick, .ref 388 none 2 0 f.quotas.length none, .ref 390 none 10 0 i none, .ref 392 none 1 0 f.data.length none]), (390, .row 10 ((f.inodes.take i).map cInode) [])]) (fun _ _ => True) () rfl trivial (fun i _ n hlt _ ih => ?_) (fun _ n _ => ?_)
 ·have ht := List.take_succ_eq_append_getElem hlt
  have hi := ih () trivial
  simp only [Nat.add_eq_zero_iff, Nat.one_ne_zero, and_false, if_false, ht, List.map_append, List.map_cons, List.map_nil] at hi
  rcases i with _ | i
  ·(try simp -implicitDefEqProofs (disch := first | exact dd | fail) [Tryz.f77, hlt, cInode]); (repeat' ((with_reducible first | (refine Br.out ?_ ?_ <;> intro h <;> (try (have h0 := h; simp only [bH] at h))) | refine AC_snd (impl_copyInode _ _ _ f.inodes[0] (hs.inode _ (List.getElem_mem hlt))) ?_ | fail) <;> (try simp -implicitDefEqProofs (disch := first | exact dd | fail) [Tryz.f77, hlt, cInode])))
   exact hi
  ·have hl : (List.map cInode (List.take (i + 1) f.inodes)).length = i + 1 := by simp; omega
   generalize List.map cInode (List.take (i + 1) f.inodes) = G at *
   have hG : List.take (i + 1) G = G := List.take_of_length_le (by omega)
   (try simp -implicitDefEqProofs (disch := first | exact dd | fail) [Tryz.f77, hlt, hG, hl, cInode]); (repeat' ((with_reducible first | (refine Br.out ?_ ?_ <;> intro h <;> (try (have h0 := h; simp only [bH] at h))) | refine AC_snd (impl_copyInode _ _ _ f.inodes[i + 1] (hs.inode _ (List.getElem_mem hlt))) ?_ | fail) <;> (try simp -implicitDefEqProofs (disch := first | exact dd | fail) [Tryz.f77, hlt, hG, hl, cInode])))
   simp [cInode] at hi
   exact hi
 ·rcases Nat.eq_zero_or_pos f.inodes.length with h0 | h0
  ·have h1 : f.inodes = [] := List.length_eq_zero_iff.1 h0
   (try simp -implicitDefEqProofs (disch := first | exact dd | fail) [Tryz.f77, h1]); (repeat' ((with_reducible first | (refine Br.out ?_ ?_ <;> intro h <;> (try (have h0 := h; simp only [bH] at h))) | fail) <;> (try simp -implicitDefEqProofs (disch := first | exact dd | fail) [Tryz.f77, h1])))
  ·have h1 : ¬ f.inodes.length = 0 := by omega
   have h2 : ¬ f.inodes = [] := fun e => h1 (by rw [e]; rfl)
   simp only [h1, if_false, List.take_length]
   (try simp -implicitDefEqProofs (disch := first | exact dd | fail) [Tryz.f77, h2]); (repeat' ((with_reducible first | (refine Br.out ?_ ?_ <;> intro h <;> (try (have h0 := h; simp only [bH] at h))) | fail) <;> (try simp -implicitDefEqProofs (disch := first | exact dd | fail) [Tryz.f77, h2])))
set_option maxHeartbeats 4000000 in
set_option maxRecDepth 8000 in
theorem spec_l08Copy (n1 n2 n3 : Option Bool) (f : DFS) (hs : SmF f) : Snd Tryz.prog 68 [fFS n1 n2 n3 f] (rFS f) [.unk] := Runs.snd (M := M) (c := ⟨1, [1, 2, 3, 5, 18, 19, 20, 21], [], [(1, [0, 1, 2, 3, 18, 19, 20, 21])]⟩) tok ks mixed Tryz.func68 (p := []) (by kernel_rfl) (by rfl) (by rfl) <| by
 have k1 := hs.quotas
 have k2 := hs.inodes
 have k3 := hs.data
 (try simp -implicitDefEqProofs (disch := first | exact dd | fail) [Tryz.f68]); (repeat' ((with_reducible first | (refine Br.out ?_ ?_ <;> intro h <;> (try (have h0 := h; simp only [bH] at h))) | fail) <;> (try simp -implicitDefEqProofs (disch := first | exact dd | fail) [Tryz.f68])))
 refine AL_fors (σ := Unit) 20 f.inodes.length (fun _ _ => []) (fun i _ => if i = 0 then [] else [(384, .box [.int .i64 f.tick, .ref 388 none 2 0 f.quotas.length (some false), .ref 390 none 10 0 i none, .ref 392 none 1 0 f.data.length (some false)]), (390, .row 10 ((f.inodes.take i).map cInode) [])]) (fun _ _ => True) () rfl trivial (fun i _ n hlt _ ih => ?_) (fun _ n _ => ?_)
 ·have ht := List.take_succ_eq_append_getElem hlt
  have hi := ih () trivial
  simp only [Nat.add_eq_zero_iff, Nat.one_ne_zero, and_false, if_false, ht, List.map_append, List.map_cons, List.map_nil] at hi
  rcases i with _ | i
  ·(try simp -implicitDefEqProofs (disch := first | exact dd | fail) [Tryz.f68, hlt, cInode]); (repeat' ((with_reducible first | (refine Br.out ?_ ?_ <;> intro h <;> (try (have h0 := h; simp only [bH] at h))) | refine AC_snd (spec_l07Copy _ _ _ f.inodes[0] (hs.inode _ (List.getElem_mem hlt))) ?_ | fail) <;> (try simp -implicitDefEqProofs (disch := first | exact dd | fail) [Tryz.f68, hlt, cInode])))
   exact hi
  ·have hl : (List.map cInode (List.take (i + 1) f.inodes)).length = i + 1 := by simp; omega
   generalize List.map cInode (List.take (i + 1) f.inodes) = G at *
   have hG : List.take (i + 1) G = G := List.take_of_length_le (by omega)
   (try simp -implicitDefEqProofs (disch := first | exact dd | fail) [Tryz.f68, hlt, hG, hl, cInode]); (repeat' ((with_reducible first | (refine Br.out ?_ ?_ <;> intro h <;> (try (have h0 := h; simp only [bH] at h))) | refine AC_snd (spec_l07Copy _ _ _ f.inodes[i + 1] (hs.inode _ (List.getElem_mem hlt))) ?_ | fail) <;> (try simp -implicitDefEqProofs (disch := first | exact dd | fail) [Tryz.f68, hlt, hG, hl, cInode])))
   simp [cInode] at hi
   exact hi
 ·rcases Nat.eq_zero_or_pos f.inodes.length with h0 | h0
  ·have h1 : f.inodes = [] := List.length_eq_zero_iff.1 h0
   (try simp -implicitDefEqProofs (disch := first | exact dd | fail) [Tryz.f68, h1]); (repeat' ((with_reducible first | (refine Br.out ?_ ?_ <;> intro h <;> (try (have h0 := h; simp only [bH] at h))) | fail) <;> (try simp -implicitDefEqProofs (disch := first | exact dd | fail) [Tryz.f68, h1])))
  ·have h1 : ¬ f.inodes.length = 0 := by omega
   have h2 : ¬ f.inodes = [] := fun e => h1 (by rw [e]; rfl)
   simp only [h1, if_false, List.take_length]
   (try simp -implicitDefEqProofs (disch := first | exact dd | fail) [Tryz.f68, h2]); (repeat' ((with_reducible first | (refine Br.out ?_ ?_ <;> intro h <;> (try (have h0 := h; simp only [bH] at h))) | fail) <;> (try simp -implicitDefEqProofs (disch := first | exact dd | fail) [Tryz.f68, h2])))
end Go.Proofs.YtgopfdninbknpaaGreat
