import Derived.Test.YtiafmpcmmohdkaaGreatWC
import Derived.Test.YtiafmpcmmohdkaaGreatP13e
namespace Go.Proofs.YtiafmpcmmohdkaaGreat
open Go.Fw
set_option linter.unusedVariables false
set_option linter.unusedSimpArgs false
set_option maxHeartbeats 8000000
set_option maxRecDepth 8000
theorem laws_FnExactRemovableBy (n1 n2 n3 n4 : Option Bool) (f : DFS) (c : DCred) (d : Int) (s : Str) (hf : WfFS f) (hc : WfCred c) (h1 : (Lit.int .i64 d).wf = true) (h2 : s.length ≤ maxLen) : Snd Tryz.prog 7 [fFS n1 n2 n3 f, fCred n4 c, .int .i64 d, .str s] (.bool true) [.unk, .unk, .unk, .unk] := Runs.snd (M := M) (c := ⟨4, [4, 5, 8, 9, 10, 11, 12, 13, 16, 21, 26, 45, 50, 55], [], []⟩) tok ks mixed Tryz.func7 (p := []) (by kernel_rfl) (by rfl) (by rfl) <| by
 (try simp -implicitDefEqProofs (disch := first | exact dd | fail) [Tryz.f7]); (repeat' ((with_reducible first | (refine Br.out ?_ ?_ <;> intro h <;> (try (have h0 := h; simp only [bH] at h))) | refine AC_snd (laws_szFS _ _ _ f _ (by omega) (by omega) hf) ?_ | fail) <;> (try simp -implicitDefEqProofs (disch := first | exact dd | fail) [Tryz.f7])))
 have q1 := szR_ge (Int.not_lt.1 (‹¬ szR (wFS f) 1048576 < 0›))
 have sf : SmFS f := smFS_of (by omega)
 (try simp -implicitDefEqProofs (disch := first | exact dd | fail) [Tryz.f7]); (repeat' ((with_reducible first | (refine Br.out ?_ ?_ <;> intro h <;> (try (have h0 := h; simp only [bH] at h))) | refine AC_snd (laws_szCred _ c _ (by omega) (by omega) hc) ?_ | fail) <;> (try simp -implicitDefEqProofs (disch := first | exact dd | fail) [Tryz.f7])))
 have q2 := szR_ge (Int.not_lt.1 (by assumption))
 have sc : SmCred c := smCred_of (by omega)
 have hi := fun a b g e => impl_RemovableBy a b g e f c d s (smF sf) sc.hl_groups
 have hs := fun a b g e => spec_RemovableBy a b g e f c d s (smF sf) sc.hl_groups
 generalize removableO f c d s = r at *
 (try simp -implicitDefEqProofs (disch := first | exact dd | fail) [Tryz.f7]); (repeat' ((with_reducible first | (refine Br.out ?_ ?_ <;> intro h <;> (try (have h0 := h; simp only [bH] at h))) | refine AC_snd (laws_toFS _ _ _ f sf) ?_ | refine AC_snd (laws_toCred _ c sc) ?_ | refine AC_snd (hs _ _ _ _) ?_ | refine AC_snd (hi _ _ _ _) ?_ | refine AC_snd (laws_eqFS _ _ _ _ _ _ f _ sf) ?_ | refine AC_snd (laws_eqCred _ _ c _ sc) ?_ | fail) <;> (try simp -implicitDefEqProofs (disch := first | exact dd | fail) [Tryz.f7])))
end Go.Proofs.YtiafmpcmmohdkaaGreat
