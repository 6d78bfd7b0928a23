import Derived.Test.YtnidlanekanlbaaDat
import Derived.Test.YtnidlanekanlbaaBase
namespace Go.Proofs.Ytnidlanekanlbaa
open Go.Fw
set_option linter.unusedVariables false
set_option linter.unusedSimpArgs false
set_option maxHeartbeats 4000000 in
theorem slices_CloneStr (n : Option Bool) (xs : List Str) (hl : xs.length ≤ 1048576) : Snd Try.prog 155 [.frz 1 n (xs.map cs)] (.row 1 (xs.map cs)) [.unk] := by
  have hl' : xs.length ≤ LIM := by unfold LIM; omega
  refine Snd.frz_cases (pre := []) (post := []) (fun e => ?_) (?_)
  · obtain rfl : xs = [] := by simpa using e
    exact Runs.snd (M := M) (c := ⟨1, [2, 4], [], []⟩) tok ks mixed Try.func155 (p := []) (by kernel_rfl) (by rfl) (by rfl) <| by
      simp -implicitDefEqProofs (disch := first | assumption | omega | (refine of_indep ?_; kernel_rfl) | (simp; done) | fail) [Try.f155, ABr, AGd]
  · exact Runs.snd (M := M) (c := ⟨1, [2, 4], [], []⟩) tok ks mixed Try.func155 (p := []) (by kernel_rfl) (by rfl) (by rfl) <| by
      simp -implicitDefEqProofs (disch := first | assumption | omega | (refine of_indep ?_; kernel_rfl) | (simp; done) | fail) [Try.f155, hl', ABr, AGd]

set_option maxHeartbeats 4000000 in
theorem slices_CloneWrite (n : Option Bool) (xs : List DWrite) (hl : xs.length ≤ 1048576) : Snd Try.prog 156 [.frz 2 n (xs.map cWrite)] (.row 2 (xs.map cWrite)) [.unk] := by
  have hl' : xs.length ≤ LIM := by unfold LIM; omega
  refine Snd.frz_cases (pre := []) (post := []) (fun e => ?_) (?_)
  · obtain rfl : xs = [] := by simpa using e
    exact Runs.snd (M := M) (c := ⟨1, [2, 4], [], []⟩) tok ks mixed Try.func156 (p := []) (by kernel_rfl) (by rfl) (by rfl) <| by
      simp -implicitDefEqProofs (disch := first | assumption | omega | (refine of_indep ?_; kernel_rfl) | (simp; done) | fail) [Try.f156, ABr, AGd]
  · exact Runs.snd (M := M) (c := ⟨1, [2, 4], [], []⟩) tok ks mixed Try.func156 (p := []) (by kernel_rfl) (by rfl) (by rfl) <| by
      simp -implicitDefEqProofs (disch := first | assumption | omega | (refine of_indep ?_; kernel_rfl) | (simp; done) | fail) [Try.f156, hl', ABr, AGd]

set_option maxHeartbeats 4000000 in
theorem slices_EqualStr (n1 n2 : Option Bool) (xs ys : List Str) (hl : xs.length ≤ 1048576) :
    Snd Try.prog 166 [.frz 1 n1 (xs.map cs), .frz 1 n2 (ys.map cs)] (.bool (decide (xs = ys))) [.unk, .unk] := Runs.snd (M := M) (c := ⟨2, [4, 5, 10, 12, 13, 14, 24], [], [(1, [0, 1, 4, 10, 12, 13, 14, 24])]⟩) tok ks mixed Try.func166 (p := []) (by kernel_rfl) (by rfl) (by rfl) <| by
  (try simp -implicitDefEqProofs (disch := first | assumption | omega | (refine of_indep ?_; kernel_rfl) | (simp; done) | fail) [Try.f166]); (repeat' (first | (with_reducible refine ABr_dec (fun h => ?_) (fun h => ?_) <;> simp -implicitDefEqProofs (disch := first | assumption | omega | (refine of_indep ?_; kernel_rfl) | (simp; done) | fail) [Try.f166]) | (with_reducible refine AGd_dec (fun h => ?_) (fun h => ?_) <;> simp -implicitDefEqProofs (disch := first | assumption | omega | (refine of_indep ?_; kernel_rfl) | (simp; done) | fail) [Try.f166]) | (with_reducible refine ABr_intro (fun h => ?_) (fun h => ?_) <;> (have h0 := h; try simp only [Bool.and_eq_true, Bool.or_eq_true, Bool.and_eq_false_iff, Bool.or_eq_false_iff, Bool.not_eq_true, Bool.not_eq_false, Bool.not_eq_eq_eq_not, Bool.not_true, Bool.not_false, decide_eq_true_eq, decide_eq_false_iff_not] at h) <;> simp -implicitDefEqProofs (disch := first | assumption | omega | (refine of_indep ?_; kernel_rfl) | (simp; done) | fail) [Try.f166]) | (with_reducible refine AGd_intro (fun h => ?_) (fun h => ?_) <;> (have h0 := h; try simp only [Bool.and_eq_true, Bool.or_eq_true, Bool.and_eq_false_iff, Bool.or_eq_false_iff, Bool.not_eq_true, Bool.not_eq_false, Bool.not_eq_eq_eq_not, Bool.not_true, Bool.not_false, decide_eq_true_eq, decide_eq_false_iff_not] at h) <;> simp -implicitDefEqProofs (disch := first | assumption | omega | (refine of_indep ?_; kernel_rfl) | (simp; done) | fail) [Try.f166])))
  rotate_left
  · rintro rfl; omega
  refine AL_ind (fun i => xs.length - i) (fun i => ⟨[(0, .frz 1 n1 (xs.map cs)), (1, .frz 1 n2 (ys.map cs)), (4, .bool false), (12, .int .i64 xs.length), (13, .int .i64 i)], [], false⟩)
    (fun i => i ≤ xs.length ∧ xs.take i = ys.take i) 0 rfl ⟨by omega, rfl⟩ ?_
  rintro i n ⟨hi, he⟩ ih
  rcases Nat.lt_or_ge i xs.length with hlt | hge
  · have hlt' : i < ys.length := by omega
    (try simp -implicitDefEqProofs (disch := first | assumption | omega | (refine of_indep ?_; kernel_rfl) | (simp; done) | fail) [Try.f166, hlt, hlt']); (repeat' (first | (with_reducible refine ABr_dec (fun h => ?_) (fun h => ?_) <;> simp -implicitDefEqProofs (disch := first | assumption | omega | (refine of_indep ?_; kernel_rfl) | (simp; done) | fail) [Try.f166, hlt, hlt']) | (with_reducible refine AGd_dec (fun h => ?_) (fun h => ?_) <;> simp -implicitDefEqProofs (disch := first | assumption | omega | (refine of_indep ?_; kernel_rfl) | (simp; done) | fail) [Try.f166, hlt, hlt']) | (with_reducible refine ABr_intro (fun h => ?_) (fun h => ?_) <;> (have h0 := h; try simp only [Bool.and_eq_true, Bool.or_eq_true, Bool.and_eq_false_iff, Bool.or_eq_false_iff, Bool.not_eq_true, Bool.not_eq_false, Bool.not_eq_eq_eq_not, Bool.not_true, Bool.not_false, decide_eq_true_eq, decide_eq_false_iff_not] at h) <;> simp -implicitDefEqProofs (disch := first | assumption | omega | (refine of_indep ?_; kernel_rfl) | (simp; done) | fail) [Try.f166, hlt, hlt']) | (with_reducible refine AGd_intro (fun h => ?_) (fun h => ?_) <;> (have h0 := h; try simp only [Bool.and_eq_true, Bool.or_eq_true, Bool.and_eq_false_iff, Bool.or_eq_false_iff, Bool.not_eq_true, Bool.not_eq_false, Bool.not_eq_eq_eq_not, Bool.not_true, Bool.not_false, decide_eq_true_eq, decide_eq_false_iff_not] at h) <;> simp -implicitDefEqProofs (disch := first | assumption | omega | (refine of_indep ?_; kernel_rfl) | (simp; done) | fail) [Try.f166, hlt, hlt'])))
    all_goals first
      | (refine ih (i + 1) ⟨by omega, take_step hlt hlt' he ?_⟩ (by omega); revert h; generalize xs[i] = x; generalize ys[i] = y; cases x <;> cases y <;> simp)
      | (rintro rfl; simp at h)
  · obtain rfl : i = xs.length := by omega
    (try simp -implicitDefEqProofs (disch := first | assumption | omega | (refine of_indep ?_; kernel_rfl) | (simp; done) | fail) [Try.f166]); (repeat' (first | (with_reducible refine ABr_dec (fun h => ?_) (fun h => ?_) <;> simp -implicitDefEqProofs (disch := first | assumption | omega | (refine of_indep ?_; kernel_rfl) | (simp; done) | fail) [Try.f166]) | (with_reducible refine AGd_dec (fun h => ?_) (fun h => ?_) <;> simp -implicitDefEqProofs (disch := first | assumption | omega | (refine of_indep ?_; kernel_rfl) | (simp; done) | fail) [Try.f166]) | (with_reducible refine ABr_intro (fun h => ?_) (fun h => ?_) <;> (have h0 := h; try simp only [Bool.and_eq_true, Bool.or_eq_true, Bool.and_eq_false_iff, Bool.or_eq_false_iff, Bool.not_eq_true, Bool.not_eq_false, Bool.not_eq_eq_eq_not, Bool.not_true, Bool.not_false, decide_eq_true_eq, decide_eq_false_iff_not] at h) <;> simp -implicitDefEqProofs (disch := first | assumption | omega | (refine of_indep ?_; kernel_rfl) | (simp; done) | fail) [Try.f166]) | (with_reducible refine AGd_intro (fun h => ?_) (fun h => ?_) <;> (have h0 := h; try simp only [Bool.and_eq_true, Bool.or_eq_true, Bool.and_eq_false_iff, Bool.or_eq_false_iff, Bool.not_eq_true, Bool.not_eq_false, Bool.not_eq_eq_eq_not, Bool.not_true, Bool.not_false, decide_eq_true_eq, decide_eq_false_iff_not] at h) <;> simp -implicitDefEqProofs (disch := first | assumption | omega | (refine of_indep ?_; kernel_rfl) | (simp; done) | fail) [Try.f166])))
    exact take_all (by omega) he

end Go.Proofs.Ytnidlanekanlbaa
