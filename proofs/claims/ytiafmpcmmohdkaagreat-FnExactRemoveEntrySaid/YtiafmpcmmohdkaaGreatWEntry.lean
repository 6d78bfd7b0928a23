import Derived.Test.YtiafmpcmmohdkaaGreatWC
import Derived.Test.YtiafmpcmmohdkaaGreatP13c
namespace Go.Proofs.YtiafmpcmmohdkaaGreat
open Go.Fw
set_option linter.unusedVariables false
set_option linter.unusedSimpArgs false
set_option maxHeartbeats 8000000
set_option maxRecDepth 8000
theorem fs_sm {f g : DFS} (h : g = f ∨ IsFS g) (hs : SmFS f) (m1 : (1 : Int) + ntFS f ≤ 16777216) : SmFS g ∧ (1 : Int) + ntFS g ≤ 16777216 := by
 rcases h with rfl | h
 ·exact ⟨hs, m1⟩
 ·have ht := tiny_of h
  exact ⟨ht.sm, by have := ht.nt; omega⟩
theorem laws_FnExactAddEntry (n1 n2 n3 : Option Bool) (f : DFS) (d : Int) (s : Str) (i : Int) (hf : WfFS f) (h1 : (Lit.int .i64 d).wf = true) (h2 : s.length ≤ maxLen) (h3 : (Lit.int .i64 i).wf = true) : Snd Tryz.prog 8 [fFS n1 n2 n3 f, .int .i64 d, .str s, .int .i64 i] (.bool true) [.unk, .unk, .unk, .unk] := Runs.snd (M := M) (c := ⟨4, [4, 8, 9, 10, 11, 12, 13, 14, 15, 16, 17, 18, 19, 22, 27, 55, 60, 76, 84, 87, 105, 110, 113], [], []⟩) tok ks mixed Tryz.func8 (p := []) (by kernel_rfl) (by rfl) (by rfl) <| by
 (try simp -implicitDefEqProofs (disch := first | exact dd | fail) [Tryz.f8]); (repeat' ((with_reducible first | (refine Br.out ?_ ?_ <;> intro h <;> (try (have h0 := h; simp only [bH] at h))) | refine AC_snd (laws_szFS _ _ _ f _ (by omega) (by omega) hf) ?_ | fail) <;> (try simp -implicitDefEqProofs (disch := first | exact dd | fail) [Tryz.f8])))
 have q1 := szR_ge (Int.not_lt.1 (‹¬ szR (wFS f) 1048576 < 0›))
 have sf : SmFS f := smFS_of (by omega)
 have m1 : (1 : Int) + ntFS f ≤ 16777216 := by have := ntFS_le f; omega
 have hsp := spec_AddEntry none none none f d i s (smF sf) (by omega)
 have hip := impl_AddEntry none none none f d i s (smF sf) (by omega)
 obtain ⟨sm2, m2⟩ := fs_sm (addO_fs (f := f) (d := d) (s := s) (i := i)) sf m1
 generalize (addO f d s i).1 = g at *
 generalize (addO f d s i).2 = e at *
 (try simp -implicitDefEqProofs (disch := first | exact dd | fail) [Tryz.f8, mkL_len]); (repeat' ((with_reducible first | (refine Br.out ?_ ?_ <;> intro h <;> (try (have h0 := h; simp only [bH] at h))) | refine AC_snd (laws_toFS _ _ _ f sf) ?_ | refine AC_snd (hsp) ?_ | refine AC_snd (hip) ?_ | refine AC_snd (laws_eqFS _ _ _ _ _ _ g _ sm2) ?_ | refine AC_snd (laws_eqFS _ _ _ _ _ _ f _ sf) ?_ | refine AC_snd (laws_markFS f _ sf (by omega) m1) ?_ | refine AC_snd (laws_markFS g _ sm2 (by omega) m2) ?_ | refine AC_snd (laws_heldFS _ _ _ g _ sm2 (by omega) m2) ?_ | fail) <;> (try simp -implicitDefEqProofs (disch := first | exact dd | fail) [Tryz.f8, mkL_len])))
theorem laws_FnExactRemoveEntry (n1 n2 n3 : Option Bool) (f : DFS) (d : Int) (s : Str) (hf : WfFS f) (h1 : (Lit.int .i64 d).wf = true) (h2 : s.length ≤ maxLen) : Snd Tryz.prog 9 [fFS n1 n2 n3 f, .int .i64 d, .str s] (.bool true) [.unk, .unk, .unk] := Runs.snd (M := M) (c := ⟨3, [3, 6, 7, 8, 9, 10, 11, 12, 13, 14, 15, 16, 17, 20, 25, 51, 56, 72, 80, 83, 100, 105, 108], [], []⟩) tok ks mixed Tryz.func9 (p := []) (by kernel_rfl) (by rfl) (by rfl) <| by
 (try simp -implicitDefEqProofs (disch := first | exact dd | fail) [Tryz.f9]); (repeat' ((with_reducible first | (refine Br.out ?_ ?_ <;> intro h <;> (try (have h0 := h; simp only [bH] at h))) | refine AC_snd (laws_szFS _ _ _ f _ (by omega) (by omega) hf) ?_ | fail) <;> (try simp -implicitDefEqProofs (disch := first | exact dd | fail) [Tryz.f9])))
 have q1 := szR_ge (Int.not_lt.1 (‹¬ szR (wFS f) 1048576 < 0›))
 have sf : SmFS f := smFS_of (by omega)
 have m1 : (1 : Int) + ntFS f ≤ 16777216 := by have := ntFS_le f; omega
 have hsp := spec_RemoveEntry none none none f d s (smF sf)
 have hip := impl_RemoveEntry none none none f d s (smF sf)
 obtain ⟨sm2, m2⟩ := fs_sm (removeO_fs (f := f) (d := d) (s := s)) sf m1
 generalize (removeO f d s).1 = g at *
 generalize (removeO f d s).2 = e at *
 (try simp -implicitDefEqProofs (disch := first | exact dd | fail) [Tryz.f9, mkL_len]); (repeat' ((with_reducible first | (refine Br.out ?_ ?_ <;> intro h <;> (try (have h0 := h; simp only [bH] at h))) | refine AC_snd (laws_toFS _ _ _ f sf) ?_ | refine AC_snd (hsp) ?_ | refine AC_snd (hip) ?_ | refine AC_snd (laws_eqFS _ _ _ _ _ _ g _ sm2) ?_ | refine AC_snd (laws_eqFS _ _ _ _ _ _ f _ sf) ?_ | refine AC_snd (laws_markFS f _ sf (by omega) m1) ?_ | refine AC_snd (laws_markFS g _ sm2 (by omega) m2) ?_ | refine AC_snd (laws_heldFS _ _ _ g _ sm2 (by omega) m2) ?_ | fail) <;> (try simp -implicitDefEqProofs (disch := first | exact dd | fail) [Tryz.f9, mkL_len])))
end Go.Proofs.YtiafmpcmmohdkaaGreat
