import Derived.Test.YtiafmpcmmohdkaaGreatWC
import Derived.Test.YtiafmpcmmohdkaaGreatP11g
namespace Go.Proofs.YtiafmpcmmohdkaaGreat
open Go.Fw
set_option linter.unusedVariables false
set_option linter.unusedSimpArgs false
set_option maxHeartbeats 8000000
set_option maxRecDepth 8000
theorem laws_FnExactPathOf (n1 n2 n3 : Option Bool) (f : DFS) (i : Int) (hf : WfFS f) (h1 : (Lit.int .i64 i).wf = true) : Snd Tryz.prog 4 [fFS n1 n2 n3 f, .int .i64 i] (.bool true) [.unk, .unk] := Runs.snd (M := M) (c := ⟨2, [2, 4, 5, 6, 7, 8, 9, 10, 15, 38, 43], [], []⟩) tok ks mixed Tryz.func4 (p := []) (by kernel_rfl) (by rfl) (by rfl) <| by
 (try simp -implicitDefEqProofs (disch := first | exact dd | fail) [Tryz.f4]); (repeat' ((with_reducible first | (refine Br.out ?_ ?_ <;> intro h <;> (try (have h0 := h; simp only [bH] at h))) | refine AC_snd (laws_szFS _ _ _ f _ (by omega) (by omega) hf) ?_ | fail) <;> (try simp -implicitDefEqProofs (disch := first | exact dd | fail) [Tryz.f4])))
 have q1 := szR_ge (Int.not_lt.1 (by assumption))
 have sf : SmFS f := smFS_of (by omega)
 have hi := fun a b c => impl_PathOf a b c f i (smF sf)
 have hs := fun a b c => spec_PathOf a b c f i (smF sf)
 generalize pathO f i = r at *
 (try simp -implicitDefEqProofs (disch := first | exact dd | fail) [Tryz.f4]); (repeat' ((with_reducible first | (refine Br.out ?_ ?_ <;> intro h <;> (try (have h0 := h; simp only [bH] at h))) | refine AC_snd (laws_toFS _ _ _ f sf) ?_ | refine AC_snd (hs _ _ _) ?_ | refine AC_snd (hi _ _ _) ?_ | refine AC_snd (laws_eqFS _ _ _ _ _ _ f _ sf) ?_ | fail) <;> (try simp -implicitDefEqProofs (disch := first | exact dd | fail) [Tryz.f4])))
end Go.Proofs.YtiafmpcmmohdkaaGreat
