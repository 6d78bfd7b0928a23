import Derived.Test.YtpofjodnljeegaaWT
import Derived.Test.YtpofjodnljeegaaP14i
namespace Go.Proofs.Ytpofjodnljeegaa
open Go.Fw
set_option linter.unusedVariables false
set_option linter.unusedSimpArgs false
set_option maxHeartbeats 8000000
set_option maxRecDepth 8000
theorem resizeF_tiny {f : DFS} {i size : Int} (hf : IsFS f) (hi : hasI f i = true) : Tiny (resizeF f i size).1 := by
 have hi' := hasI_lt hi
 unfold resizeF
 split
 ·exact tiny_of hf
 split
 ·exact tiny_of hf
 rename_i h1 h2
 have hn := hf.sm i ⟨hi'.1, hi'.2.1⟩
 have hl := hn.len
 have hb := blocksNeeded_le (s := size) (by omega)
 obtain ⟨Z, rfl⟩ := Int.eq_ofNat_of_zero_le (show 0 ≤ size by omega)
 refine (tiny_of hf).setI ⟨?_, ?_, ?_⟩ ?_
 ·simp only [rN, List.length_take, Int.toNat_natCast]
  omega
 ·simp only [rN]; omega
 ·simp only [rN]; omega
 ·have hz := zeroR_len (data := f.data) (bs := real ((rB (inodeAt f i) (Z : Int).toNat).drop (blocksNeeded ((Z : Int).toNat : Nat)).toNat))
  have hfd := hf.nd
  unfold rD cutD
  split
  ·rw [List.length_set]; omega
  ·omega
theorem resizeO_sm {f : DFS} {i size : Int} (hs : SmFS f) (m1 : (1 : Int) + ntFS f ≤ 16777216) : SmFS (resizeO f i size).1 ∧ (1 : Int) + ntFS (resizeO f i size).1 ≤ 16777216 := by
 unfold resizeO
 split
 ·rename_i hu
  have hu2 := Bool.and_eq_true_iff.1 hu
  have ht := resizeF_tiny (size := size) (tr_iff.1 hu2.1) hu2.2
  exact ⟨ht.sm, by have := ht.nt; omega⟩
 ·exact ⟨hs, m1⟩
theorem laws_FnExactResizeFile (n1 n2 n3 : Option Bool) (f : DFS) (i a : Int) (hf : WfFS f) (h1 : (Lit.int .i64 i).wf = true) (h2 : (Lit.int .i64 a).wf = true) : Snd Try.prog 5 [fFS n1 n2 n3 f, .int .i64 i, .int .i64 a] (.bool true) [.unk, .unk, .unk] := Runs.snd (M := M) (c := ⟨3, [3, 6, 7, 8, 9, 10, 11, 12, 13, 14, 15, 16, 17, 22, 48, 53, 69, 77, 80, 97, 102, 105], [], []⟩) tok ks mixed Try.func5 (p := []) (by kernel_rfl) (by rfl) (by rfl) <| by
 (try simp -implicitDefEqProofs (disch := first | exact dd | fail) [Try.f5]); (repeat' ((with_reducible first | (refine Br.out ?_ ?_ <;> intro h <;> (try (have h0 := h; simp only [bH] at h))) | refine AC_snd (laws_szFS _ _ _ f _ (by omega) (by omega) hf) ?_ | fail) <;> (try simp -implicitDefEqProofs (disch := first | exact dd | fail) [Try.f5])))
 have q1 := szR_ge (Int.not_lt.1 (‹¬ szR (wFS f) 1048576 < 0›))
 have sf : SmFS f := smFS_of (by omega)
 have m1 : (1 : Int) + ntFS f ≤ 16777216 := by have := ntFS_le f; omega
 have ha : a ≤ 9223372036854775807 := of_decide_eq_true (Bool.and_eq_true_iff.1 h2).2
 have hsp := spec_ResizeFile none none none f i a (smF sf)
 have hip := impl_ResizeFile none none none f i a (smF sf) ha
 obtain ⟨sm2, m2⟩ := resizeO_sm (i := i) (size := a) sf m1
 generalize (resizeO f i a).1 = g at *
 generalize (resizeO f i a).2 = e at *
 (try simp -implicitDefEqProofs (disch := first | exact dd | fail) [Try.f5, mkL_len]); (repeat' ((with_reducible first | (refine Br.out ?_ ?_ <;> intro h <;> (try (have h0 := h; simp only [bH] at h))) | refine AC_snd (laws_toFS _ _ _ f sf) ?_ | refine AC_snd (hsp) ?_ | refine AC_snd (hip) ?_ | refine AC_snd (laws_eqFS _ _ _ _ _ _ g _ sm2) ?_ | refine AC_snd (laws_eqFS _ _ _ _ _ _ f _ sf) ?_ | refine AC_snd (laws_markFS f _ sf (by omega) m1) ?_ | refine AC_snd (laws_markFS g _ sm2 (by omega) m2) ?_ | refine AC_snd (laws_heldFS _ _ _ g _ sm2 (by omega) m2) ?_ | fail) <;> (try simp -implicitDefEqProofs (disch := first | exact dd | fail) [Try.f5, mkL_len])))
end Go.Proofs.Ytpofjodnljeegaa
