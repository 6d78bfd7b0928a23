import Derived.Test.YtnidlanekanlbaaDat
import Derived.Test.YtnidlanekanlbaaBase
namespace Go.Proofs.Ytnidlanekanlbaa
open Go.Fw
set_option linter.unusedVariables false
set_option linter.unusedSimpArgs false
set_option maxHeartbeats 1000000 in
theorem spec_l01In (n a b : Int) : Snd Try.prog 153 [.int .i64 n, .int .i64 a, .int .i64 b] (.bool (decide (a ≤ n) && decide (n ≤ b))) [.unk, .unk, .unk] := Runs.snd (M := M) (c := ⟨3, [6], [], []⟩) tok ks mixed Try.func153 (p := []) (by kernel_rfl) (by rfl) (by rfl) <| by
  by_cases h : n ≥ a
  · have h' : a ≤ n := h
    simp -implicitDefEqProofs (disch := first | assumption | omega | (refine of_indep ?_; kernel_rfl) | (simp; done) | fail) [Try.f153, h, h', ABr, AGd]
  · have h' : ¬ a ≤ n := h
    simp -implicitDefEqProofs (disch := first | assumption | omega | (refine of_indep ?_; kernel_rfl) | (simp; done) | fail) [Try.f153, h, h', ABr, AGd]
end Go.Proofs.Ytnidlanekanlbaa
