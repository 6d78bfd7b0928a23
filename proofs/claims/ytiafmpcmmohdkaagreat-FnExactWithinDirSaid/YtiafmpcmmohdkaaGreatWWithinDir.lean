import Derived.Test.YtiafmpcmmohdkaaGreatWC
import Derived.Test.YtiafmpcmmohdkaaGreatP14l
namespace Go.Proofs.YtiafmpcmmohdkaaGreat
open Go.Fw
set_option linter.unusedVariables false
set_option linter.unusedSimpArgs false
set_option maxHeartbeats 8000000
set_option maxRecDepth 8000
theorem laws_FnExactWithinDir (n1 n2 n3 : Option Bool) (f : DFS) (i d : Int) (hf : WfFS f) (h1 : (Lit.int .i64 i).wf = true) (h2 : (Lit.int .i64 d).wf = true) : Snd Tryz.prog 3 [fFS n1 n2 n3 f, .int .i64 i, .int .i64 d] (.bool true) [.unk, .unk, .unk] := Runs.snd (M := M) (c := ⟨3, [3, 6, 7, 8, 9, 10, 15, 29, 34], [], []⟩) tok ks mixed Tryz.func3 (p := []) (by kernel_rfl) (by rfl) (by rfl) <| by
 (try simp -implicitDefEqProofs (disch := first | exact dd | fail) [Tryz.f3]); (repeat' ((with_reducible first | (refine Br.out ?_ ?_ <;> intro h <;> (try (have h0 := h; simp only [bH] at h))) | refine AC_snd (laws_szFS _ _ _ f _ (by omega) (by omega) hf) ?_ | fail) <;> (try simp -implicitDefEqProofs (disch := first | exact dd | fail) [Tryz.f3])))
 have q1 := szR_ge (Int.not_lt.1 (by assumption))
 have sf : SmFS f := smFS_of (by omega)
 (try simp -implicitDefEqProofs (disch := first | exact dd | fail) [Tryz.f3]); (repeat' ((with_reducible first | (refine Br.out ?_ ?_ <;> intro h <;> (try (have h0 := h; simp only [bH] at h))) | refine AC_snd (laws_toFS _ _ _ f sf) ?_ | refine AC_snd (spec_WithinDir _ _ _ f _ _ (smF sf)) ?_ | refine AC_snd (impl_WithinDir _ _ _ f _ _ (smF sf)) ?_ | refine AC_snd (laws_eqFS _ _ _ _ _ _ f _ sf) ?_ | fail) <;> (try simp -implicitDefEqProofs (disch := first | exact dd | fail) [Tryz.f3])))
end Go.Proofs.YtiafmpcmmohdkaaGreat
