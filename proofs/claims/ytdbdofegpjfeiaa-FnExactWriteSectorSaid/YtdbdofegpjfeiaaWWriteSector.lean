import Derived.Test.YtdbdofegpjfeiaaP03c
import Derived.Test.YtdbdofegpjfeiaaLDisk
namespace Go.Proofs.Ytdbdofegpjfeiaa
open Go.Fw
set_option linter.unusedVariables false
set_option linter.unusedSimpArgs false
theorem nLString_eq (xs : List Str) : nLString xs = xs.length := wList_one
theorem nLWrite_eq (xs : List DWrite) : nLWrite xs = 2 * xs.length := by
  show wList (fun _ => 2) xs = _
  induction xs with
  | nil => rfl
  | cons x xs ih => simp only [wList, ih, List.length_cons]; omega
theorem ntDisk_eq (d : DDisk) : ntDisk d = d.secs.length + 2 * d.pend.length := by
  simp only [ntDisk, nLString_eq, nLWrite_eq]
theorem writeD_len (d : DDisk) (i : Int) (data : Str) : (writeD d i data).1.secs.length = d.secs.length ∧ (writeD d i data).1.pend.length ≤ max d.pend.length 400 := by
  unfold writeD
  split
  · rename_i h
    simp only [writeOK, Bool.and_eq_true, decide_eq_true_eq] at h
    simp
    omega
  · simp
    omega
set_option maxHeartbeats 4000000 in
theorem laws_FnExactWriteSector (n1 n2 : Option Bool) (d : DDisk) (i : Int) (data : Str) (hd : WfDisk d) (h1 : (Lit.int .i64 i).wf = true) (h2 : data.length ≤ maxLen) : Snd Try.prog 7 [fDisk n1 n2 d, .int .i64 i, .str data] (.bool true) [.unk, .unk, .unk] := Runs.snd (M := M) (c := ⟨3, [3, 6, 7, 8, 9, 10, 11, 12, 13, 14, 15, 16, 17, 20, 25, 51, 56, 72, 80, 83, 100, 105, 108], [], []⟩) tok ks mixed Try.func7 (p := []) (by kernel_rfl) (by rfl) (by rfl) <| by
  (try simp -implicitDefEqProofs (disch := first | assumption | omega | (refine of_indep ?_; kernel_rfl) | (simp; done) | fail) [Try.f7]); (repeat' (first | (with_reducible refine ABr_dec (fun h => ?_) (fun h => ?_) <;> simp -implicitDefEqProofs (disch := first | assumption | omega | (refine of_indep ?_; kernel_rfl) | (simp; done) | fail) [Try.f7]) | (with_reducible refine AGd_dec (fun h => ?_) (fun h => ?_) <;> simp -implicitDefEqProofs (disch := first | assumption | omega | (refine of_indep ?_; kernel_rfl) | (simp; done) | fail) [Try.f7]) | (with_reducible refine ABr_intro (fun h => ?_) (fun h => ?_) <;> (have h0 := h; try simp only [Bool.and_eq_true, Bool.or_eq_true, Bool.and_eq_false_iff, Bool.or_eq_false_iff, Bool.not_eq_true, Bool.not_eq_false, Bool.not_eq_eq_eq_not, Bool.not_true, Bool.not_false, decide_eq_true_eq, decide_eq_false_iff_not] at h) <;> simp -implicitDefEqProofs (disch := first | assumption | omega | (refine of_indep ?_; kernel_rfl) | (simp; done) | fail) [Try.f7]) | (with_reducible refine AGd_intro (fun h => ?_) (fun h => ?_) <;> (have h0 := h; try simp only [Bool.and_eq_true, Bool.or_eq_true, Bool.and_eq_false_iff, Bool.or_eq_false_iff, Bool.not_eq_true, Bool.not_eq_false, Bool.not_eq_eq_eq_not, Bool.not_true, Bool.not_false, decide_eq_true_eq, decide_eq_false_iff_not] at h) <;> simp -implicitDefEqProofs (disch := first | assumption | omega | (refine of_indep ?_; kernel_rfl) | (simp; done) | fail) [Try.f7]) | (with_reducible refine AC_snd (laws_szDisk _ _ d _ (by omega) (by omega) hd) ?_ <;> simp -implicitDefEqProofs (disch := first | assumption | omega | (refine of_indep ?_; kernel_rfl) | (simp; done) | fail) [Try.f7])))
  have hs' := szR_ge (Int.not_lt.1 (by assumption))
  have sm : SmDisk d := smDisk_of (by omega)
  have hsec := sm.hl_secs
  have hpen := sm.hl_pend
  have hdl : data.length ≤ 1048576 := by omega
  obtain ⟨l1, l2⟩ := writeD_len d i data
  have n1 : (1 : Int) + ntDisk d ≤ 16777216 := by rw [ntDisk_eq]; omega
  have n2 : (1 : Int) + ntDisk (writeD d i data).1 ≤ 16777216 := by rw [ntDisk_eq, l1]; omega
  have sm2 : SmDisk (writeD d i data).1 := ⟨by omega, by omega⟩
  (try simp -implicitDefEqProofs (disch := first | assumption | omega | (refine of_indep ?_; kernel_rfl) | (simp; done) | fail) [Try.f7, mkL_len]); (repeat' (first | (with_reducible refine ABr_dec (fun h => ?_) (fun h => ?_) <;> simp -implicitDefEqProofs (disch := first | assumption | omega | (refine of_indep ?_; kernel_rfl) | (simp; done) | fail) [Try.f7, mkL_len]) | (with_reducible refine AGd_dec (fun h => ?_) (fun h => ?_) <;> simp -implicitDefEqProofs (disch := first | assumption | omega | (refine of_indep ?_; kernel_rfl) | (simp; done) | fail) [Try.f7, mkL_len]) | (with_reducible refine ABr_intro (fun h => ?_) (fun h => ?_) <;> (have h0 := h; try simp only [Bool.and_eq_true, Bool.or_eq_true, Bool.and_eq_false_iff, Bool.or_eq_false_iff, Bool.not_eq_true, Bool.not_eq_false, Bool.not_eq_eq_eq_not, Bool.not_true, Bool.not_false, decide_eq_true_eq, decide_eq_false_iff_not] at h) <;> simp -implicitDefEqProofs (disch := first | assumption | omega | (refine of_indep ?_; kernel_rfl) | (simp; done) | fail) [Try.f7, mkL_len]) | (with_reducible refine AGd_intro (fun h => ?_) (fun h => ?_) <;> (have h0 := h; try simp only [Bool.and_eq_true, Bool.or_eq_true, Bool.and_eq_false_iff, Bool.or_eq_false_iff, Bool.not_eq_true, Bool.not_eq_false, Bool.not_eq_eq_eq_not, Bool.not_true, Bool.not_false, decide_eq_true_eq, decide_eq_false_iff_not] at h) <;> simp -implicitDefEqProofs (disch := first | assumption | omega | (refine of_indep ?_; kernel_rfl) | (simp; done) | fail) [Try.f7, mkL_len]) | (with_reducible refine AC_snd (laws_toDisk _ _ d sm) ?_ <;> simp -implicitDefEqProofs (disch := first | assumption | omega | (refine of_indep ?_; kernel_rfl) | (simp; done) | fail) [Try.f7, mkL_len]) | (with_reducible refine AC_snd (spec_WriteSector _ _ d i data hsec hpen hdl) ?_ <;> simp -implicitDefEqProofs (disch := first | assumption | omega | (refine of_indep ?_; kernel_rfl) | (simp; done) | fail) [Try.f7, mkL_len]) | (with_reducible refine AC_snd (impl_WriteSector _ _ d i data hsec hpen hdl) ?_ <;> simp -implicitDefEqProofs (disch := first | assumption | omega | (refine of_indep ?_; kernel_rfl) | (simp; done) | fail) [Try.f7, mkL_len]) | (with_reducible refine AC_snd (laws_eqDisk _ _ _ _ _ _ sm2) ?_ <;> simp -implicitDefEqProofs (disch := first | assumption | omega | (refine of_indep ?_; kernel_rfl) | (simp; done) | fail) [Try.f7, mkL_len]) | (with_reducible refine AC_snd (laws_eqDisk _ _ _ _ _ _ sm) ?_ <;> simp -implicitDefEqProofs (disch := first | assumption | omega | (refine of_indep ?_; kernel_rfl) | (simp; done) | fail) [Try.f7, mkL_len]) | (with_reducible refine AC_snd (laws_markDisk _ _ sm (by omega) n1) ?_ <;> simp -implicitDefEqProofs (disch := first | assumption | omega | (refine of_indep ?_; kernel_rfl) | (simp; done) | fail) [Try.f7, mkL_len]) | (with_reducible refine AC_snd (laws_markDisk _ _ sm2 (by omega) n2) ?_ <;> simp -implicitDefEqProofs (disch := first | assumption | omega | (refine of_indep ?_; kernel_rfl) | (simp; done) | fail) [Try.f7, mkL_len]) | (with_reducible refine AC_snd (laws_heldDisk _ _ _ _ sm2 (by omega) n2) ?_ <;> simp -implicitDefEqProofs (disch := first | assumption | omega | (refine of_indep ?_; kernel_rfl) | (simp; done) | fail) [Try.f7, mkL_len])))
end Go.Proofs.Ytdbdofegpjfeiaa
