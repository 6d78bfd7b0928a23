import Derived.Test.YtnidlanekanlbaaLDisk
namespace Go.Proofs.Ytnidlanekanlbaa
open Go.Fw
set_option linter.unusedVariables false
set_option linter.unusedSimpArgs false
structure WfStep (x : DStep) : Prop where
  hs_w : WfWrite x.w
def wStep (x : DStep) : Nat := wWrite x.w
set_option maxHeartbeats 8000000 in
set_option maxRecDepth 4000 in
theorem laws_szStep (x : DStep) (n : Int) (h0 : 0 ≤ n) (h1 : n ≤ 1048576) (hw : WfStep x) :
   Snd Try.prog 73 [.agg [.bool x.flush, .int .i64 x.w.sec, .str x.w.data], .int .i64 n] (.int .i64 (szR (wStep x) n)) [.unk, .unk] := Runs.snd (M := M) (c := ⟨2, [2, 4, 10], [], []⟩) tok ks mixed Try.func73 (p := []) (by kernel_rfl) (by rfl) (by rfl) <| by
  have w1 : szR (wStep x) n = _ := (rfl : _ = szR (wWrite x.w) n)
  simp -implicitDefEqProofs (disch := first | assumption | omega | (refine of_indep ?_; kernel_rfl) | (simp; done) | fail) [Try.f73, ABr, AGd]
  refine AC_snd (laws_szWrite  _ _ (by omega) (by omega) hw.hs_w) ?_
  simp -implicitDefEqProofs (disch := first | assumption | omega | (refine of_indep ?_; kernel_rfl) | (simp; done) | fail) [Try.f73, w1, ABr, AGd]
  exact fun h => szR_m1 (by omega) h
set_option maxHeartbeats 8000000 in
set_option maxRecDepth 4000 in
theorem laws_toStep (x : DStep) :
   Snd Try.prog 79 [.agg [.bool x.flush, .int .i64 x.w.sec, .str x.w.data]] (.agg [.bool x.flush, .int .i64 x.w.sec, .str x.w.data]) [.unk] := Runs.snd (M := M) (c := ⟨1, [1, 2, 3], [], []⟩) tok ks mixed Try.func79 (p := []) (by kernel_rfl) (by rfl) (by rfl) <| by
  simp -implicitDefEqProofs (disch := first | assumption | omega | (refine of_indep ?_; kernel_rfl) | (simp; done) | fail) [Try.f79, ABr, AGd]
  refine AC_snd (laws_toWrite  _) ?_
  simp -implicitDefEqProofs (disch := first | assumption | omega | (refine of_indep ?_; kernel_rfl) | (simp; done) | fail) [Try.f79, ABr, AGd]
set_option maxHeartbeats 8000000 in
set_option maxRecDepth 4000 in
theorem laws_eqStep (x y : DStep) :
   Snd Try.prog 87 [.agg [.bool x.flush, .int .i64 x.w.sec, .str x.w.data], .agg [.bool y.flush, .int .i64 y.w.sec, .str y.w.data]] (.bool (decide (x = y))) [.unk, .unk] := Runs.snd (M := M) (c := ⟨2, [2, 3, 4, 9, 15], [], []⟩) tok ks mixed Try.func87 (p := []) (by kernel_rfl) (by rfl) (by rfl) <| by
  simp -implicitDefEqProofs (disch := first | assumption | omega | (refine of_indep ?_; kernel_rfl) | (simp; done) | fail) [Try.f87, ABr, AGd]
  refine ⟨fun h => by (rintro rfl; first | exact h rfl | simp at h), fun _ => ?_⟩
  refine AC_snd (laws_eqWrite   _ _) ?_
  simp -implicitDefEqProofs (disch := first | assumption | omega | (refine of_indep ?_; kernel_rfl) | (simp; done) | fail) [Try.f87, ABr, AGd]
  refine ⟨fun h => by (rintro rfl; first | exact h rfl | simp at h), fun _ => ?_⟩
  cases x
  cases y
  simp_all
def wLStep (xs : List DStep) : Nat := xs.length + wList wStep xs
set_option maxHeartbeats 8000000 in
set_option maxRecDepth 4000 in
theorem laws_szStepS (nl : Option Bool) (xs : List DStep) (l : Int) (h0 : 0 ≤ l) (h1 : l ≤ 1048576) (hl : xs.length ≤ maxLen) (hx : ∀ x ∈ xs, WfStep x) :
   Snd Try.prog 16 [.frz 3 nl (xs.map cStep), .int .i64 l] (.int .i64 (szR (wLStep xs) l)) [.unk, .unk] := Runs.snd (M := M) (c := ⟨2, [4, 5, 11, 15, 25], [], []⟩) tok ks mixed Try.func16 (p := []) (by kernel_rfl) (by rfl) (by rfl) <| by
  unfold maxLen at hl
  have hw : szR (wLStep xs) l = if l - xs.length < 0 then -1 else szR (wList wStep xs) (l - xs.length) := szR_step _ _ _
  simp -implicitDefEqProofs (disch := first | assumption | omega | (refine of_indep ?_; kernel_rfl) | (simp; done) | fail) [Try.f16, ABr, AGd]
  refine ⟨fun h => by rw [hw, if_pos h], fun h => ?_⟩
  rw [if_neg (by omega)] at hw
  refine AL_ind (ι := Nat × Int) (fun x => xs.length - x.1) (fun x => ⟨[(0, .frz 3 nl (xs.map cStep)), (1, .int .i64 x.2), (4, .int .i64 0), (5, .int .i64 x.1)], [], false⟩)
    (fun x => x.1 ≤ xs.length ∧ 0 ≤ x.2 ∧ x.2 ≤ 1048576 ∧ szR (wList wStep (xs.drop x.1)) x.2 = szR (wLStep xs) l) (0, l - xs.length) rfl ⟨by simp, by omega, by omega, hw.symm⟩ ?_
  rintro ⟨i, a⟩ n ⟨hi, ha0, ha1, hr⟩ ih
  simp only at hi ha0 ha1 hr ⊢
  rcases Nat.lt_or_ge i xs.length with hlt | hge
  · have hxi := hx xs[i] (List.getElem_mem hlt)
    rw [wList_drop _ hlt, szR_step] at hr
    simp -implicitDefEqProofs (disch := first | assumption | omega | (refine of_indep ?_; kernel_rfl) | (simp; done) | fail) [Try.f16, hlt, cStep, ABr, AGd]
    refine AC_snd (laws_szStep  xs[i] _ (by omega) (by omega) hxi) ?_
    simp -implicitDefEqProofs (disch := first | assumption | omega | (refine of_indep ?_; kernel_rfl) | (simp; done) | fail) [Try.f16, hlt, cStep, ABr, AGd]
    refine ⟨fun h => by rw [← hr, if_pos (szR_lt ha0 h)], fun h => ?_⟩
    obtain ⟨e1, h'⟩ := szR_ge h
    rw [if_neg (by omega)] at hr
    rw [e1]
    exact ih (i + 1, a - wStep xs[i]) ⟨by simp only; omega, by simp only; omega, by simp only; omega, hr⟩ (by simp only; omega)
  · obtain rfl : i = xs.length := by omega
    simp -implicitDefEqProofs (disch := first | assumption | omega | (refine of_indep ?_; kernel_rfl) | (simp; done) | fail) [Try.f16, ABr, AGd]
    rw [← hr, List.drop_length, wList, szR_zero ha0]
set_option maxHeartbeats 8000000 in
set_option maxRecDepth 4000 in
theorem laws_toStepS (nl : Option Bool) (xs : List DStep) (hl : xs.length ≤ 1048576) :
   Snd Try.prog 19 [.frz 3 nl (xs.map cStep)] (.row 3 (xs.map cStep)) [.unk] := Runs.snd (M := M) (c := ⟨1, [2, 3, 4, 11], [], []⟩) tok ks mixed Try.func19 (p := []) (by kernel_rfl) (by rfl) (by rfl) <| by
  have hl' : (xs.length : Int) ≤ 1073741824 := by omega
  simp -implicitDefEqProofs (disch := first | assumption | omega | (refine of_indep ?_; kernel_rfl) | (simp; done) | fail) [Try.f19, LIM, hl', ABr, AGd]
  rw [fillTo_zero (c := cStep)]
  refine AL_ind (fun i => xs.length - i) (fun i => ⟨[(0, .frz 3 nl (xs.map cStep)), (2, .frz 0 (some true) []), (3, .ref 384 none 3 0 xs.length (some false)), (4, .int .i64 i)], [(384, .row 3 (fillTo cStep [.bool false, .int .i64 0, .str []] xs i) [])], false⟩)
    (fun i => i ≤ xs.length) 0 rfl (by omega) ?_
  intro i n hi ih
  rcases Nat.lt_or_ge i xs.length with hlt | hge
  · have hs := fillTo_set (c := cStep) (z := [.bool false, .int .i64 0, .str []]) hlt
    have hg := fillTo_get (c := cStep) (z := [.bool false, .int .i64 0, .str []]) hlt
    simp only [cStep] at hs hg
    simp -implicitDefEqProofs (disch := first | assumption | omega | (refine of_indep ?_; kernel_rfl) | (simp; done) | fail) [Try.f19, hlt, hs, hg, fillTo_len, cStep, ABr, AGd]
    refine AC_snd (laws_toStep  _) ?_
    simp -implicitDefEqProofs (disch := first | assumption | omega | (refine of_indep ?_; kernel_rfl) | (simp; done) | fail) [Try.f19, hlt, hs, hg, fillTo_len, cStep, ABr, AGd]
    exact ih (i + 1) (by omega) (by omega)
  · obtain rfl : i = xs.length := by omega
    simp -implicitDefEqProofs (disch := first | assumption | omega | (refine of_indep ?_; kernel_rfl) | (simp; done) | fail) [Try.f19, fillTo_len, fillTo_end, ABr, AGd]
set_option maxHeartbeats 8000000 in
set_option maxRecDepth 4000 in
theorem laws_eqStepS (n1 n2 : Option Bool) (xs ys : List DStep) (hl : xs.length ≤ 1048576) :
   Snd Try.prog 22 [.frz 3 n1 (xs.map cStep), .frz 3 n2 (ys.map cStep)] (.bool (decide (xs = ys))) [.unk, .unk] := Runs.snd (M := M) (c := ⟨2, [4, 5, 10, 14, 26], [], []⟩) tok ks mixed Try.func22 (p := []) (by kernel_rfl) (by rfl) (by rfl) <| by
  simp -implicitDefEqProofs (disch := first | assumption | omega | (refine of_indep ?_; kernel_rfl) | (simp; done) | fail) [Try.f22, ABr, AGd]
  refine ⟨fun h => by rintro rfl; exact h rfl, fun h => ?_⟩
  refine AL_ind (fun i => xs.length - i) (fun i => ⟨[(0, .frz 3 n1 (xs.map cStep)), (1, .frz 3 n2 (ys.map cStep)), (4, .bool false), (5, .int .i64 i)], [], false⟩)
    (fun i => i ≤ xs.length ∧ xs.take i = ys.take i) 0 rfl ⟨by omega, rfl⟩ ?_
  rintro i n ⟨hi, he⟩ ih
  rcases Nat.lt_or_ge i xs.length with hlt | hge
  · have hlt' : i < ys.length := by omega
    simp -implicitDefEqProofs (disch := first | assumption | omega | (refine of_indep ?_; kernel_rfl) | (simp; done) | fail) [Try.f22, hlt, hlt', cStep, ABr, AGd]
    refine AC_snd (laws_eqStep   _ _) ?_
    simp -implicitDefEqProofs (disch := first | assumption | omega | (refine of_indep ?_; kernel_rfl) | (simp; done) | fail) [Try.f22, hlt, hlt', cStep, ABr, AGd]
    refine ⟨fun h1 => by rintro rfl; exact h1 rfl, fun h1 => ?_⟩
    exact ih (i + 1) ⟨by omega, take_step hlt hlt' he h1⟩ (by omega)
  · obtain rfl : i = xs.length := by omega
    simp -implicitDefEqProofs (disch := first | assumption | omega | (refine of_indep ?_; kernel_rfl) | (simp; done) | fail) [Try.f22, ABr, AGd]
    exact take_all (by omega) he
def mkStep (x : DStep) (k : Int) : DStep := { flush := decide (k % 3 = 0), w := { x.w with sec := (k + 1), data := markT ((k + 1) + 1) } }
def nmStep (x : DStep) : Nat := 3
abbrev mLStep (xs : List DStep) (k : Int) : List DStep := mkL mkStep nmStep xs k
abbrev nLStep (xs : List DStep) : Nat := wList nmStep xs
set_option maxHeartbeats 8000000 in
set_option maxRecDepth 4000 in
theorem laws_markStepS (xs : List DStep) (k : Int) (hl : xs.length ≤ 1048576) (hk : 0 ≤ k) (hn : k + nLStep xs ≤ 16777216) :
   Snd Try.prog 24 [.row 3 (xs.map cStep), .int .i64 k] (.int .i64 (k + nLStep xs)) [.row 3 ((mLStep xs k).map cStep), .unk] := Runs.snd (M := M) (c := ⟨2, [4, 5, 9], [], []⟩) tok ks mixed Try.func24 (p := [0]) (by kernel_rfl) (by rfl) (by rfl) <| by
  have hml : (mLStep xs k).length = xs.length := mkL_len
  simp -implicitDefEqProofs (disch := first | assumption | omega | (refine of_indep ?_; kernel_rfl) | (simp; done) | fail) [Try.f24, ABr, AGd]
  rw [patch_zero (c := cStep) (ms := mLStep xs k) (xs := xs)]
  refine AL_ind (ι := Nat × Int) (fun x => xs.length - x.1) (fun x => ⟨[(0, .ref 0 none 3 0 xs.length none), (1, .int .i64 x.2), (4, .int .i64 0), (5, .int .i64 x.1)], [(0, .row 3 (patch cStep (mLStep xs k) xs x.1) [])], false⟩)
    (fun x => x.1 ≤ xs.length ∧ x.2 = k + wList nmStep (xs.take x.1)) (0, k) rfl ⟨by simp, by simp [wList]⟩ ?_
  rintro ⟨i, a⟩ n ⟨hi, ha⟩ ih
  simp only at hi ha ⊢
  rcases Nat.lt_or_ge i xs.length with hlt | hge
  · have hw := wList_take (n := nmStep) hlt
    have hle := wList_take_le (n := nmStep) (xs := xs) (i := i + 1)
    have hpl := patch_len (c := cStep) hml hi
    have hg := patch_get (c := cStep) hml hlt
    have hpi := Nat.lt_of_lt_of_eq hlt hpl.symm
    rw [List.getElem?_eq_getElem hpi] at hg
    have hg := Option.some.inj hg
    have hs := patch_put (c := cStep) hml hlt (mkL_get (f := mkStep) hlt)
    rw [← ha] at hs
    simp only [cStep, mkStep, nmStep] at hg hs hw
    simp only [nLStep] at hn
    simp -implicitDefEqProofs (disch := first | assumption | omega | (refine of_indep ?_; kernel_rfl) | (simp; done) | fail) [Try.f24, hlt, hg, hs, patch_len hml, List.set_set, cStep, ABr, AGd]
    refine AC_snd (laws_markText _ (by omega)) ?_
    simp -implicitDefEqProofs (disch := first | assumption | omega | (refine of_indep ?_; kernel_rfl) | (simp; done) | fail) [Try.f24, hlt, hg, hs, patch_len hml, List.set_set, cStep, ABr, AGd]
    refine ih (i + 1, _) ⟨by simp only; omega, ?_⟩ (by simp only; omega)
    simp only
    omega
  · obtain rfl : i = xs.length := by omega
    simp -implicitDefEqProofs (disch := first | assumption | omega | (refine of_indep ?_; kernel_rfl) | (simp; done) | fail) [Try.f24, patch_len hml, patch_end hml, hml, ABr, AGd]
    rw [ha, List.take_length]
end Go.Proofs.Ytnidlanekanlbaa
