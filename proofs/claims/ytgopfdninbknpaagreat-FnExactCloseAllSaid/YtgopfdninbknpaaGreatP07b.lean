import Derived.Test.YtgopfdninbknpaaGreatP07a
import Derived.Test.YtgopfdninbknpaaGreatP05b
namespace Go.Proofs.YtgopfdninbknpaaGreat
open Go.Fw
set_option linter.unusedVariables false
set_option linter.unusedSimpArgs false
set_option maxHeartbeats 4000000 in
theorem spec_l02Same (n1 n2 : Option Bool) (xs ys : List Int) (hl : xs.length ≤ 1048576) : Snd Tryz.prog 256 [.frz 1 n1 (xs.map ci), .frz 1 n2 (ys.map ci)] (.bool (decide (xs = ys))) [.unk, .unk] := Runs.snd (M := M) (c := ⟨2, [4, 5, 6, 11, 12, 13, 14, 15, 24], [], [(1, [0, 1, 4, 11, 12, 13, 14, 15, 24])]⟩) tok ks mixed Tryz.func256 (p := []) (by kernel_rfl) (by rfl) (by rfl) <| by
 (try simp -implicitDefEqProofs (disch := first | exact dd | fail) [Tryz.f256]); (repeat' ((with_reducible first | (refine Br.out ?_ ?_ <;> intro h <;> (try (have h0 := h; simp only [bH] at h))) | fail) <;> (try simp -implicitDefEqProofs (disch := first | exact dd | fail) [Tryz.f256])))
 ·refine AL_for 14 xs.length (fun i => xs.take i = ys.take i) rfl rfl (fun i n hlt he ih => ?_) (fun n he => ?_)
  ·have hlt' : i < ys.length := by omega
   (try simp -implicitDefEqProofs (disch := first | exact dd | fail) [Tryz.f256, hlt, hlt']); (repeat' ((with_reducible first | (refine Br.out ?_ ?_ <;> intro h <;> (try (have h0 := h; simp only [bH] at h))) | fail) <;> (try simp -implicitDefEqProofs (disch := first | exact dd | fail) [Tryz.f256, hlt, hlt'])))
   all_goals first
    |(refine ih (take_step hlt hlt' he ?_); first | assumption | (revert h; generalize xs[i] = x; generalize ys[i] = y; cases x <;> cases y <;> simp))
    |(rintro rfl; simp at h)
  ·(try simp -implicitDefEqProofs (disch := first | exact dd | fail) [Tryz.f256]); (repeat' ((with_reducible first | (refine Br.out ?_ ?_ <;> intro h <;> (try (have h0 := h; simp only [bH] at h))) | fail) <;> (try simp -implicitDefEqProofs (disch := first | exact dd | fail) [Tryz.f256])))
   exact take_all (by omega) he
 ·rintro rfl; omega
set_option maxHeartbeats 4000000 in
theorem spec_l05Same (n1 n2 : Option Bool) (xs ys : List DAcl) (hl : xs.length ≤ 1048576) : Snd Tryz.prog 257 [.frz 3 n1 (xs.map cAcl), .frz 3 n2 (ys.map cAcl)] (.bool (decide (xs = ys))) [.unk, .unk] := Runs.snd (M := M) (c := ⟨2, [4, 5, 6, 11, 12, 13, 14, 15, 24], [], [(1, [0, 1, 4, 11, 12, 13, 14, 15, 24])]⟩) tok ks mixed Tryz.func257 (p := []) (by kernel_rfl) (by rfl) (by rfl) <| by
 (try simp -implicitDefEqProofs (disch := first | exact dd | fail) [Tryz.f257]); (repeat' ((with_reducible first | (refine Br.out ?_ ?_ <;> intro h <;> (try (have h0 := h; simp only [bH] at h))) | fail) <;> (try simp -implicitDefEqProofs (disch := first | exact dd | fail) [Tryz.f257])))
 ·refine AL_for 14 xs.length (fun i => xs.take i = ys.take i) rfl rfl (fun i n hlt he ih => ?_) (fun n he => ?_)
  ·have hlt' : i < ys.length := by omega
   (try simp -implicitDefEqProofs (disch := first | exact dd | fail) [Tryz.f257, hlt, hlt']); (repeat' ((with_reducible first | (refine Br.out ?_ ?_ <;> intro h <;> (try (have h0 := h; simp only [bH] at h))) | fail) <;> (try simp -implicitDefEqProofs (disch := first | exact dd | fail) [Tryz.f257, hlt, hlt'])))
   all_goals first
    |(refine ih (take_step hlt hlt' he ?_); first | assumption | (revert h; generalize xs[i] = x; generalize ys[i] = y; cases x <;> cases y <;> simp))
    |(rintro rfl; simp at h)
  ·(try simp -implicitDefEqProofs (disch := first | exact dd | fail) [Tryz.f257]); (repeat' ((with_reducible first | (refine Br.out ?_ ?_ <;> intro h <;> (try (have h0 := h; simp only [bH] at h))) | fail) <;> (try simp -implicitDefEqProofs (disch := first | exact dd | fail) [Tryz.f257])))
   exact take_all (by omega) he
 ·rintro rfl; omega
set_option maxHeartbeats 8000000 in
set_option maxRecDepth 8000 in
theorem impl_SameInode (a b : DInode) (n1 n2 n3 n4 n5 n6 : Option Bool) (h : SmI a) : Snd Tryz.prog 224 [fInode n1 n2 n3 a, fInode n4 n5 n6 b] (.bool (decide (a = b))) [.unk, .unk] := Runs.snd (M := M) (c := ⟨2, [2, 3, 4], [], []⟩) tok ks mixed Tryz.func224 (p := []) (by kernel_rfl) (by rfl) (by rfl) <| by
 have h1 := h.blocks
 have h2 := h.acl
 have h3 := h.dflt
 (try simp -implicitDefEqProofs (disch := first | exact dd | fail) [Tryz.f224]); (repeat' ((with_reducible first | (refine Br.out ?_ ?_ <;> intro h <;> (try (have h0 := h; simp only [bH] at h))) | refine AC_snd (slices_EqualInt _ _ a.blocks b.blocks h1) ?_ | refine AC_snd (slices_EqualAcl _ _ a.acl b.acl h2) ?_ | refine AC_snd (slices_EqualAcl _ _ a.dflt b.dflt h3) ?_ | fail) <;> (try simp -implicitDefEqProofs (disch := first | exact dd | fail) [Tryz.f224])))
 all_goals (cases a; cases b; simp_all)
set_option maxHeartbeats 8000000 in
set_option maxRecDepth 8000 in
theorem spec_SameInode (a b : DInode) (n1 n2 n3 n4 n5 n6 : Option Bool) (h : SmI a) : Snd Tryz.prog 215 [fInode n1 n2 n3 a, fInode n4 n5 n6 b] (.bool (decide (a = b))) [.unk, .unk] := Runs.snd (M := M) (c := ⟨2, [2, 3, 4, 51], [], []⟩) tok ks mixed Tryz.func215 (p := []) (by kernel_rfl) (by rfl) (by rfl) <| by
 have h1 := h.blocks
 have h2 := h.acl
 have h3 := h.dflt
 (try simp -implicitDefEqProofs (disch := first | exact dd | fail) [Tryz.f215]); (repeat' ((with_reducible first | (refine Br.out ?_ ?_ <;> intro h <;> (try (have h0 := h; simp only [bH] at h))) | refine AC_snd (spec_l02Same _ _ a.blocks b.blocks h1) ?_ | refine AC_snd (spec_l05Same _ _ a.acl b.acl h2) ?_ | refine AC_snd (spec_l05Same _ _ a.dflt b.dflt h3) ?_ | fail) <;> (try simp -implicitDefEqProofs (disch := first | exact dd | fail) [Tryz.f215])))
 all_goals (cases a; cases b; simp_all)
theorem fs_eq {a b : DFS} : a = b ↔ a.tick = b.tick ∧ a.quotas = b.quotas ∧ a.inodes = b.inodes ∧ a.data = b.data := by
 obtain ⟨a1, a2, a3, a4⟩ := a
 obtain ⟨b1, b2, b3, b4⟩ := b
 simp
theorem list_ne {α : Type} {xs ys : List α} {i : Nat} (h1 : i < xs.length) (h2 : i < ys.length) (h : ¬ xs[i] = ys[i]) : ¬ xs = ys := by
 rintro rfl
 exact h rfl
end Go.Proofs.YtgopfdninbknpaaGreat
