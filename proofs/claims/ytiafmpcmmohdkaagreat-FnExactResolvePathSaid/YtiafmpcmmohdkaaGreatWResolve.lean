import Derived.Test.YtiafmpcmmohdkaaGreatWC
import Derived.Test.YtiafmpcmmohdkaaGreatP11p
namespace Go.Proofs.YtiafmpcmmohdkaaGreat
open Go.Fw
set_option linter.unusedVariables false
set_option linter.unusedSimpArgs false
set_option maxHeartbeats 8000000
set_option maxRecDepth 8000
theorem laws_FnExactResolvePath (n1 n2 n3 n4 : Option Bool) (f : DFS) (c : DCred) (p : Str) (hf : WfFS f) (hc : WfCred c) (h1 : p.length ≤ maxLen) : Snd Tryz.prog 5 [fFS n1 n2 n3 f, fCred n4 c, .str p] (.bool true) [.unk, .unk, .unk] := Runs.snd (M := M) (c := ⟨3, [3, 4, 6, 7, 8, 9, 10, 11, 12, 13, 16, 21, 26, 54, 59, 64], [], []⟩) tok ks mixed Tryz.func5 (p := []) (by kernel_rfl) (by rfl) (by rfl) <| by
 (try simp -implicitDefEqProofs (disch := first | exact dd | fail) [Tryz.f5]); (repeat' ((with_reducible first | (refine Br.out ?_ ?_ <;> intro h <;> (try (have h0 := h; simp only [bH] at h))) | refine AC_snd (laws_szFS _ _ _ f _ (by omega) (by omega) hf) ?_ | fail) <;> (try simp -implicitDefEqProofs (disch := first | exact dd | fail) [Tryz.f5])))
 have q1 := szR_ge (Int.not_lt.1 (‹¬ szR (wFS f) 1048576 < 0›))
 have sf : SmFS f := smFS_of (by omega)
 (try simp -implicitDefEqProofs (disch := first | exact dd | fail) [Tryz.f5]); (repeat' ((with_reducible first | (refine Br.out ?_ ?_ <;> intro h <;> (try (have h0 := h; simp only [bH] at h))) | refine AC_snd (laws_szCred _ c _ (by omega) (by omega) hc) ?_ | fail) <;> (try simp -implicitDefEqProofs (disch := first | exact dd | fail) [Tryz.f5])))
 have q2 := szR_ge (Int.not_lt.1 (by assumption))
 have sc : SmCred c := smCred_of (by omega)
 have hi := fun a b d e => impl_ResolvePath a b d e f c p (smF sf) sc.hl_groups (by omega)
 have hs := fun a b d e => spec_ResolvePath a b d e f c p (smF sf) sc.hl_groups (by omega)
 generalize resolveF f c p = r at *
 (try simp -implicitDefEqProofs (disch := first | exact dd | fail) [Tryz.f5]); (repeat' ((with_reducible first | (refine Br.out ?_ ?_ <;> intro h <;> (try (have h0 := h; simp only [bH] at h))) | refine AC_snd (laws_toFS _ _ _ f sf) ?_ | refine AC_snd (laws_toCred _ c sc) ?_ | refine AC_snd (hs _ _ _ _) ?_ | refine AC_snd (hi _ _ _ _) ?_ | refine AC_snd (laws_eqFS _ _ _ _ _ _ f _ sf) ?_ | refine AC_snd (laws_eqCred _ _ c _ sc) ?_ | fail) <;> (try simp -implicitDefEqProofs (disch := first | exact dd | fail) [Tryz.f5])))
theorem laws_FnExactResolveParent (n1 n2 n3 n4 : Option Bool) (f : DFS) (c : DCred) (p : Str) (hf : WfFS f) (hc : WfCred c) (h1 : p.length ≤ maxLen) : Snd Tryz.prog 6 [fFS n1 n2 n3 f, fCred n4 c, .str p] (.bool true) [.unk, .unk, .unk] := Runs.snd (M := M) (c := ⟨3, [3, 4, 6, 7, 8, 9, 10, 11, 12, 13, 14, 15, 18, 23, 28, 63, 68, 73], [], []⟩) tok ks mixed Tryz.func6 (p := []) (by kernel_rfl) (by rfl) (by rfl) <| by
 (try simp -implicitDefEqProofs (disch := first | exact dd | fail) [Tryz.f6]); (repeat' ((with_reducible first | (refine Br.out ?_ ?_ <;> intro h <;> (try (have h0 := h; simp only [bH] at h))) | refine AC_snd (laws_szFS _ _ _ f _ (by omega) (by omega) hf) ?_ | fail) <;> (try simp -implicitDefEqProofs (disch := first | exact dd | fail) [Tryz.f6])))
 have q1 := szR_ge (Int.not_lt.1 (‹¬ szR (wFS f) 1048576 < 0›))
 have sf : SmFS f := smFS_of (by omega)
 (try simp -implicitDefEqProofs (disch := first | exact dd | fail) [Tryz.f6]); (repeat' ((with_reducible first | (refine Br.out ?_ ?_ <;> intro h <;> (try (have h0 := h; simp only [bH] at h))) | refine AC_snd (laws_szCred _ c _ (by omega) (by omega) hc) ?_ | fail) <;> (try simp -implicitDefEqProofs (disch := first | exact dd | fail) [Tryz.f6])))
 have q2 := szR_ge (Int.not_lt.1 (by assumption))
 have sc : SmCred c := smCred_of (by omega)
 have hi := fun a b d e => impl_ResolveParent a b d e f c p (smF sf) sc.hl_groups (by omega)
 have hs := fun a b d e => spec_ResolveParent a b d e f c p (smF sf) sc.hl_groups (by omega)
 generalize resolveQ f c p = r at *
 (try simp -implicitDefEqProofs (disch := first | exact dd | fail) [Tryz.f6]); (repeat' ((with_reducible first | (refine Br.out ?_ ?_ <;> intro h <;> (try (have h0 := h; simp only [bH] at h))) | refine AC_snd (laws_toFS _ _ _ f sf) ?_ | refine AC_snd (laws_toCred _ c sc) ?_ | refine AC_snd (hs _ _ _ _) ?_ | refine AC_snd (hi _ _ _ _) ?_ | refine AC_snd (laws_eqFS _ _ _ _ _ _ f _ sf) ?_ | refine AC_snd (laws_eqCred _ _ c _ sc) ?_ | fail) <;> (try simp -implicitDefEqProofs (disch := first | exact dd | fail) [Tryz.f6])))
end Go.Proofs.YtiafmpcmmohdkaaGreat
