import Derived.Test.YtiafmpcmmohdkaaP17
namespace Go.Proofs.Ytiafmpcmmohdkaa
open Go.Fw
set_option linter.unusedVariables false
set_option linter.unusedSimpArgs false
set_option maxHeartbeats 8000000
set_option maxRecDepth 8000
theorem laws_FnExactIsEntryName (s : Str) (h1 : s.length ≤ maxLen) : Snd Try.prog 3 [.str s] (.bool true) [.unk] := Runs.snd (M := M) (c := ⟨1, [2, 3, 4, 7, 14], [], []⟩) tok ks mixed Try.func3 (p := []) (by kernel_rfl) (by rfl) (by rfl) <| by
 (try simp -implicitDefEqProofs (disch := first | exact dd | fail) [Try.f3]); (repeat' ((with_reducible first | (refine Br.out ?_ ?_ <;> intro h <;> (try (have h0 := h; simp only [bH] at h))) | refine AC_snd (spec_IsEntryName s (by omega)) ?_ | refine AC_snd (impl_IsEntryName s (by omega)) ?_ | fail) <;> (try simp -implicitDefEqProofs (disch := first | exact dd | fail) [Try.f3])))
end Go.Proofs.Ytiafmpcmmohdkaa
