import Derived.Test.YtnidlanekanlbaaP09a
namespace Go.Proofs.Ytnidlanekanlbaa
open Go.Fw
set_option linter.unusedVariables false
set_option linter.unusedSimpArgs false
set_option maxHeartbeats 4000000 in
set_option maxRecDepth 8000 in
theorem impl_ReadBytes (n1 n2 n3 : Option Bool) (f : DFS) (i a n : Int) (hs : SmF f) (hn : n ≤ 9223372036854775807) : Snd Try.prog 34 [fFS n1 n2 n3 f, .int .i64 i, .int .i64 a, .int .i64 n] (.str (readB f i a n)) [.unk, .unk, .unk, .unk] := Runs.snd (M := M) (c := ⟨4, [4, 8, 9, 21, 27], [], []⟩) tok ks mixed Try.func34 (p := []) (by kernel_rfl) (by rfl) (by rfl) <| by
  by_cases hu : (isFS f && hasI f i) = true
  · have hu2 := Bool.and_eq_true_iff.1 hu
    have hf : IsFS f := tr_iff.1 hu2.1
    have hi := hasI_lt hu2.2
    have hcl : ((contentN f.data (inodeAt f i)).length : Int) ≤ 256 := by
      obtain ⟨k, hk⟩ := Int.eq_ofNat_of_zero_le hi.1
      have hlt : k < f.inodes.length := by rw [hf.ni]; omega
      rw [hk, inodeAt_nat hlt, contentN_len hf (List.getElem_mem hlt)]
      exact (contentN_size hf (List.getElem_mem hlt)).2.1
    have hc := impl_content n1 n2 n3 f i hf ⟨hi.1, hi.2.1⟩
    have hr : 0 ≤ a → 0 ≤ n → readB f i a n = ((contentN f.data (inodeAt f i)).drop a.toNat).take n.toNat := fun h1 h2 => by
      rw [readB, if_pos (by simp [hu2.1, hu2.2, h1, h2])]
    have hr0 : ¬ (0 ≤ a ∧ 0 ≤ n) → readB f i a n = [] := fun h1 => by
      rw [readB, if_neg (by simp [hu2.1, hu2.2]; omega)]
    generalize contentN f.data (inodeAt f i) = t at *
    (try simp -implicitDefEqProofs (disch := first | assumption | omega | (refine of_indep ?_; kernel_rfl) | (simp; done) | fail) [Try.f34, hu]); (repeat' (first | (with_reducible refine ABr_dec (fun h => ?_) (fun h => ?_) <;> simp -implicitDefEqProofs (disch := first | assumption | omega | (refine of_indep ?_; kernel_rfl) | (simp; done) | fail) [Try.f34, hu]) | (with_reducible refine AGd_dec (fun h => ?_) (fun h => ?_) <;> simp -implicitDefEqProofs (disch := first | assumption | omega | (refine of_indep ?_; kernel_rfl) | (simp; done) | fail) [Try.f34, hu]) | (with_reducible refine ABr_intro (fun h => ?_) (fun h => ?_) <;> (have h0 := h; try simp only [Bool.and_eq_true, Bool.or_eq_true, Bool.and_eq_false_iff, Bool.or_eq_false_iff, Bool.not_eq_true, Bool.not_eq_false, Bool.not_eq_eq_eq_not, Bool.not_true, Bool.not_false, decide_eq_true_eq, decide_eq_false_iff_not] at h) <;> simp -implicitDefEqProofs (disch := first | assumption | omega | (refine of_indep ?_; kernel_rfl) | (simp; done) | fail) [Try.f34, hu]) | (with_reducible refine AGd_intro (fun h => ?_) (fun h => ?_) <;> (have h0 := h; try simp only [Bool.and_eq_true, Bool.or_eq_true, Bool.and_eq_false_iff, Bool.or_eq_false_iff, Bool.not_eq_true, Bool.not_eq_false, Bool.not_eq_eq_eq_not, Bool.not_true, Bool.not_false, decide_eq_true_eq, decide_eq_false_iff_not] at h) <;> simp -implicitDefEqProofs (disch := first | assumption | omega | (refine of_indep ?_; kernel_rfl) | (simp; done) | fail) [Try.f34, hu]) | (with_reducible refine AC_snd (impl_inUse _ _ _ f _ hs) ?_ <;> simp -implicitDefEqProofs (disch := first | assumption | omega | (refine of_indep ?_; kernel_rfl) | (simp; done) | fail) [Try.f34, hu]) | (with_reducible refine AC_snd (hc) ?_ <;> simp -implicitDefEqProofs (disch := first | assumption | omega | (refine of_indep ?_; kernel_rfl) | (simp; done) | fail) [Try.f34, hu])))
    · exact (hr0 (by omega)).symm ▸ rfl
    · exact (hr0 (by omega)).symm ▸ rfl
    · rw [hr (by omega) (by omega), List.drop_of_length_le (by omega)]
      simp
    · rw [hr (by omega) (by omega)]
      split
      · rw [List.take_of_length_le (by rw [List.length_drop]; omega), List.take_of_length_le (by rw [List.length_drop]; omega)]
      · congr 1
        omega
  · have hu' : (isFS f && hasI f i) = false := by simpa using hu
    (try simp -implicitDefEqProofs (disch := first | assumption | omega | (refine of_indep ?_; kernel_rfl) | (simp; done) | fail) [Try.f34, hu']); (repeat' (first | (with_reducible refine ABr_dec (fun h => ?_) (fun h => ?_) <;> simp -implicitDefEqProofs (disch := first | assumption | omega | (refine of_indep ?_; kernel_rfl) | (simp; done) | fail) [Try.f34, hu']) | (with_reducible refine AGd_dec (fun h => ?_) (fun h => ?_) <;> simp -implicitDefEqProofs (disch := first | assumption | omega | (refine of_indep ?_; kernel_rfl) | (simp; done) | fail) [Try.f34, hu']) | (with_reducible refine ABr_intro (fun h => ?_) (fun h => ?_) <;> (have h0 := h; try simp only [Bool.and_eq_true, Bool.or_eq_true, Bool.and_eq_false_iff, Bool.or_eq_false_iff, Bool.not_eq_true, Bool.not_eq_false, Bool.not_eq_eq_eq_not, Bool.not_true, Bool.not_false, decide_eq_true_eq, decide_eq_false_iff_not] at h) <;> simp -implicitDefEqProofs (disch := first | assumption | omega | (refine of_indep ?_; kernel_rfl) | (simp; done) | fail) [Try.f34, hu']) | (with_reducible refine AGd_intro (fun h => ?_) (fun h => ?_) <;> (have h0 := h; try simp only [Bool.and_eq_true, Bool.or_eq_true, Bool.and_eq_false_iff, Bool.or_eq_false_iff, Bool.not_eq_true, Bool.not_eq_false, Bool.not_eq_eq_eq_not, Bool.not_true, Bool.not_false, decide_eq_true_eq, decide_eq_false_iff_not] at h) <;> simp -implicitDefEqProofs (disch := first | assumption | omega | (refine of_indep ?_; kernel_rfl) | (simp; done) | fail) [Try.f34, hu']) | (with_reducible refine AC_snd (impl_inUse _ _ _ f _ hs) ?_ <;> simp -implicitDefEqProofs (disch := first | assumption | omega | (refine of_indep ?_; kernel_rfl) | (simp; done) | fail) [Try.f34, hu'])))
    rw [readB, if_neg (by simp only [hu']; simp)]
theorem spec_l09Cut (s : Str) (a n : Int) (hl : s.length ≤ 1048576) : Snd Try.prog 105 [.str s, .int .i64 a, .int .i64 n] (.str (if 0 ≤ a ∧ 0 ≤ n then (s.drop a.toNat).take n.toNat else [])) [.unk, .unk, .unk] := Runs.snd (M := M) (c := ⟨3, [6, 18, 25], [], []⟩) tok ks mixed Try.func105 (p := []) (by kernel_rfl) (by rfl) (by rfl) <| by
  (try simp -implicitDefEqProofs (disch := first | assumption | omega | (refine of_indep ?_; kernel_rfl) | (simp; done) | fail) [Try.f105]); (repeat' (first | (with_reducible refine ABr_dec (fun h => ?_) (fun h => ?_) <;> simp -implicitDefEqProofs (disch := first | assumption | omega | (refine of_indep ?_; kernel_rfl) | (simp; done) | fail) [Try.f105]) | (with_reducible refine AGd_dec (fun h => ?_) (fun h => ?_) <;> simp -implicitDefEqProofs (disch := first | assumption | omega | (refine of_indep ?_; kernel_rfl) | (simp; done) | fail) [Try.f105]) | (with_reducible refine ABr_intro (fun h => ?_) (fun h => ?_) <;> (have h0 := h; try simp only [Bool.and_eq_true, Bool.or_eq_true, Bool.and_eq_false_iff, Bool.or_eq_false_iff, Bool.not_eq_true, Bool.not_eq_false, Bool.not_eq_eq_eq_not, Bool.not_true, Bool.not_false, decide_eq_true_eq, decide_eq_false_iff_not] at h) <;> simp -implicitDefEqProofs (disch := first | assumption | omega | (refine of_indep ?_; kernel_rfl) | (simp; done) | fail) [Try.f105]) | (with_reducible refine AGd_intro (fun h => ?_) (fun h => ?_) <;> (have h0 := h; try simp only [Bool.and_eq_true, Bool.or_eq_true, Bool.and_eq_false_iff, Bool.or_eq_false_iff, Bool.not_eq_true, Bool.not_eq_false, Bool.not_eq_eq_eq_not, Bool.not_true, Bool.not_false, decide_eq_true_eq, decide_eq_false_iff_not] at h) <;> simp -implicitDefEqProofs (disch := first | assumption | omega | (refine of_indep ?_; kernel_rfl) | (simp; done) | fail) [Try.f105])))
  · intro h1 h2; omega
  · intro h1 h2; omega
  · intro h1 h2; omega
  · rw [if_pos ⟨by omega, by omega⟩, List.take_of_length_le (l := List.drop a.toNat s) (by rw [List.length_drop]; omega)]
  · rw [if_pos ⟨by omega, by omega⟩, List.take_of_length_le (by rw [List.length_drop]; omega), List.take_of_length_le (by rw [List.length_drop]; omega)]
set_option maxHeartbeats 4000000 in
set_option maxRecDepth 8000 in
theorem spec_ReadBytes (n1 n2 n3 : Option Bool) (f : DFS) (i a n : Int) (hs : SmF f) : Snd Try.prog 32 [fFS n1 n2 n3 f, .int .i64 i, .int .i64 a, .int .i64 n] (.str (readB f i a n)) [.unk, .unk, .unk, .unk] := Runs.snd (M := M) (c := ⟨4, [4, 8, 12], [], []⟩) tok ks mixed Try.func32 (p := []) (by kernel_rfl) (by rfl) (by rfl) <| by
  by_cases hu : (isFS f && hasI f i) = true
  · have hu2 := Bool.and_eq_true_iff.1 hu
    have hf : IsFS f := tr_iff.1 hu2.1
    have hi := hasI_lt hu2.2
    obtain ⟨k, rfl⟩ := Int.eq_ofNat_of_zero_le hi.1
    have hlt : k < f.inodes.length := by rw [hf.ni]; omega
    have he := inodeAt_nat hlt
    have hmem := List.getElem_mem hlt
    have hcl : (contentN f.data f.inodes[k]).length ≤ 1048576 := by
      have h1 := contentN_len hf hmem
      have h2 := contentN_size hf hmem
      omega
    have hv : readB f k a n = if 0 ≤ a ∧ 0 ≤ n then ((contentN f.data f.inodes[k]).drop a.toNat).take n.toNat else [] := by
      rw [readB, he]
      simp only [hu2.1, hu2.2, Bool.true_and, Bool.and_eq_true, decide_eq_true_eq]
    rw [hv]
    (try simp -implicitDefEqProofs (disch := first | assumption | omega | (refine of_indep ?_; kernel_rfl) | (simp; done) | fail) [Try.f32, hlt, hu, cInode]); (repeat' (first | (with_reducible refine ABr_dec (fun h => ?_) (fun h => ?_) <;> simp -implicitDefEqProofs (disch := first | assumption | omega | (refine of_indep ?_; kernel_rfl) | (simp; done) | fail) [Try.f32, hlt, hu, cInode]) | (with_reducible refine AGd_dec (fun h => ?_) (fun h => ?_) <;> simp -implicitDefEqProofs (disch := first | assumption | omega | (refine of_indep ?_; kernel_rfl) | (simp; done) | fail) [Try.f32, hlt, hu, cInode]) | (with_reducible refine ABr_intro (fun h => ?_) (fun h => ?_) <;> (have h0 := h; try simp only [Bool.and_eq_true, Bool.or_eq_true, Bool.and_eq_false_iff, Bool.or_eq_false_iff, Bool.not_eq_true, Bool.not_eq_false, Bool.not_eq_eq_eq_not, Bool.not_true, Bool.not_false, decide_eq_true_eq, decide_eq_false_iff_not] at h) <;> simp -implicitDefEqProofs (disch := first | assumption | omega | (refine of_indep ?_; kernel_rfl) | (simp; done) | fail) [Try.f32, hlt, hu, cInode]) | (with_reducible refine AGd_intro (fun h => ?_) (fun h => ?_) <;> (have h0 := h; try simp only [Bool.and_eq_true, Bool.or_eq_true, Bool.and_eq_false_iff, Bool.or_eq_false_iff, Bool.not_eq_true, Bool.not_eq_false, Bool.not_eq_eq_eq_not, Bool.not_true, Bool.not_false, decide_eq_true_eq, decide_eq_false_iff_not] at h) <;> simp -implicitDefEqProofs (disch := first | assumption | omega | (refine of_indep ?_; kernel_rfl) | (simp; done) | fail) [Try.f32, hlt, hu, cInode]) | (with_reducible refine AC_snd (spec_l09Use _ _ _ f _ hs) ?_ <;> simp -implicitDefEqProofs (disch := first | assumption | omega | (refine of_indep ?_; kernel_rfl) | (simp; done) | fail) [Try.f32, hlt, hu, cInode]) | (with_reducible refine AC_snd (spec_l09Text _ _ _ _ _ _ f f.inodes[k] hf hmem) ?_ <;> simp -implicitDefEqProofs (disch := first | assumption | omega | (refine of_indep ?_; kernel_rfl) | (simp; done) | fail) [Try.f32, hlt, hu, cInode]) | (with_reducible refine AC_snd (spec_l09Cut _ _ _ hcl) ?_ <;> simp -implicitDefEqProofs (disch := first | assumption | omega | (refine of_indep ?_; kernel_rfl) | (simp; done) | fail) [Try.f32, hlt, hu, cInode])))
  · have hu' : (isFS f && hasI f i) = false := by simpa using hu
    (try simp -implicitDefEqProofs (disch := first | assumption | omega | (refine of_indep ?_; kernel_rfl) | (simp; done) | fail) [Try.f32, hu']); (repeat' (first | (with_reducible refine ABr_dec (fun h => ?_) (fun h => ?_) <;> simp -implicitDefEqProofs (disch := first | assumption | omega | (refine of_indep ?_; kernel_rfl) | (simp; done) | fail) [Try.f32, hu']) | (with_reducible refine AGd_dec (fun h => ?_) (fun h => ?_) <;> simp -implicitDefEqProofs (disch := first | assumption | omega | (refine of_indep ?_; kernel_rfl) | (simp; done) | fail) [Try.f32, hu']) | (with_reducible refine ABr_intro (fun h => ?_) (fun h => ?_) <;> (have h0 := h; try simp only [Bool.and_eq_true, Bool.or_eq_true, Bool.and_eq_false_iff, Bool.or_eq_false_iff, Bool.not_eq_true, Bool.not_eq_false, Bool.not_eq_eq_eq_not, Bool.not_true, Bool.not_false, decide_eq_true_eq, decide_eq_false_iff_not] at h) <;> simp -implicitDefEqProofs (disch := first | assumption | omega | (refine of_indep ?_; kernel_rfl) | (simp; done) | fail) [Try.f32, hu']) | (with_reducible refine AGd_intro (fun h => ?_) (fun h => ?_) <;> (have h0 := h; try simp only [Bool.and_eq_true, Bool.or_eq_true, Bool.and_eq_false_iff, Bool.or_eq_false_iff, Bool.not_eq_true, Bool.not_eq_false, Bool.not_eq_eq_eq_not, Bool.not_true, Bool.not_false, decide_eq_true_eq, decide_eq_false_iff_not] at h) <;> simp -implicitDefEqProofs (disch := first | assumption | omega | (refine of_indep ?_; kernel_rfl) | (simp; done) | fail) [Try.f32, hu']) | (with_reducible refine AC_snd (spec_l09Use _ _ _ f _ hs) ?_ <;> simp -implicitDefEqProofs (disch := first | assumption | omega | (refine of_indep ?_; kernel_rfl) | (simp; done) | fail) [Try.f32, hu'])))
    rw [readB, if_neg (by simp only [hu']; simp)]
end Go.Proofs.Ytnidlanekanlbaa
