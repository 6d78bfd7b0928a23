import Derived.Test.YtiafmpcmmohdkaaP11p
import Derived.Test.YtiafmpcmmohdkaaLA
import Derived.Test.YtiafmpcmmohdkaaWC
namespace Go.Proofs.Ytiafmpcmmohdkaa
open Go.Fw
set_option linter.unusedVariables false
set_option linter.unusedSimpArgs false
set_option maxHeartbeats 8000000
set_option maxRecDepth 8000
theorem laws_FnExactSplitPath (p : Str) (h1 : p.length ≤ maxLen) : Snd Try.prog 4 [.str p] (.bool true) [.unk] := Runs.snd (M := M) (c := ⟨1, [2, 3, 4, 5, 6, 7, 8, 9, 10, 13, 32, 40, 43, 57, 62, 65], [], []⟩) tok ks mixed Try.func4 (p := []) (by kernel_rfl) (by rfl) (by rfl) <| by
 by_cases hp : p.length ≤ 1048576
 ·have hi := impl_SplitPath p hp
  have hs := spec_SplitPath p hp
  have hl := splitP_len (p := p)
  generalize splitP p = r at *
  obtain ⟨L, y⟩ := r
  simp only at hl hi hs
  have hLl : L.length ≤ 1048576 := by omega
  have m2 : (1 : Int) + nLString L ≤ 16777216 := by rw [nLString_eq]; omega
  (try simp -implicitDefEqProofs (disch := first | exact dd | fail) [Try.f4, mkL_len]); (repeat' ((with_reducible first | (refine Br.out ?_ ?_ <;> intro h <;> (try (have h0 := h; simp only [bH] at h))) | refine AC_snd (hs) ?_ | refine AC_snd (hi) ?_ | refine AC_snd (laws_eqStringS _ _ L _ hLl) ?_ | refine AC_snd (laws_markStringS L _ hLl (by omega) m2) ?_ | refine AC_snd (laws_heldStringS _ L _ hLl (by omega) m2) ?_ | fail) <;> (try simp -implicitDefEqProofs (disch := first | exact dd | fail) [Try.f4, mkL_len])))
 ·(try simp -implicitDefEqProofs (disch := first | exact dd | fail) [Try.f4]); (repeat' ((with_reducible first | (refine Br.out ?_ ?_ <;> intro h <;> (try (have h0 := h; simp only [bH] at h))) | fail) <;> (try simp -implicitDefEqProofs (disch := first | exact dd | fail) [Try.f4])))
  all_goals first | (exfalso; omega)
end Go.Proofs.Ytiafmpcmmohdkaa
