import Derived.Test.YtgopfdninbknpaaGreatWSys
import Derived.Test.YtgopfdninbknpaaGreatP16k
namespace Go.Proofs.YtgopfdninbknpaaGreat
open Go.Fw
set_option linter.unusedVariables false
set_option linter.unusedSimpArgs false
set_option maxHeartbeats 8000000
set_option maxRecDepth 8000
theorem closeA_sm {s : DSystem} {k : Int} (sa : SmSystem s) (m1 : (1 : Int) + ntSystem s ≤ 16777216) : SmSystem (closeA s k) ∧ (1 : Int) + ntSystem (closeA s k) ≤ 16777216 := by
 unfold closeA
 split
 ·rename_i h
  exact mid_tiny (((tr_iff.1 h.1).mid.closeD h.2).closeD h.2 |>.closeD h.2)
 ·exact ⟨sa, m1⟩
theorem laws_FnExactCloseAll (n1 n2 n3 n4 : Option Bool) (a : DSystem) (n : Int) (ha : WfSystem a) (h1 : (Lit.int .i64 n).wf = true) : Snd Tryz.prog 13 [fSystem n1 n2 n3 n4 a, .int .i64 n] (.bool true) [.unk, .unk] := Runs.snd (M := M) (c := ⟨2, [2, 4, 5, 6, 7, 8, 9, 10, 11, 12, 17, 30, 35, 46, 54, 57, 65, 70, 73], [], []⟩) tok ks mixed Tryz.func13 (p := []) (by kernel_rfl) (by rfl) (by rfl) <| by
 (try simp -implicitDefEqProofs (disch := first | exact dd | fail) [Tryz.f13]); (repeat' ((with_reducible first | (refine Br.out ?_ ?_ <;> intro h <;> (try (have h0 := h; simp only [bH] at h))) | refine AC_snd (laws_szSystem _ _ _ _ a _ (by omega) (by omega) ha) ?_ | fail) <;> (try simp -implicitDefEqProofs (disch := first | exact dd | fail) [Tryz.f13])))
 have q1 := szR_ge (Int.not_lt.1 (by assumption))
 have sa : SmSystem a := smSystem_of (by omega)
 have m1 : (1 : Int) + ntSystem a ≤ 16777216 := by have := ntSystem_le' a; omega
 have hi := impl_CloseAll none none none none a n (smS sa)
 have hsp := spec_CloseAll none none none none a n (smS sa)
 obtain ⟨sm2, m2⟩ := closeA_sm (k := n) sa m1
 generalize closeA a n = g at *
 (try simp -implicitDefEqProofs (disch := first | exact dd | fail) [Tryz.f13, mkL_len]); (repeat' ((with_reducible first | (refine Br.out ?_ ?_ <;> intro h <;> (try (have h0 := h; simp only [bH] at h))) | refine AC_snd (laws_toSystem _ _ _ _ a sa) ?_ | refine AC_snd (hsp) ?_ | refine AC_snd (hi) ?_ | refine AC_snd (laws_eqSystem _ _ _ _ _ _ _ _ a _ sa) ?_ | refine AC_snd (laws_eqSystem _ _ _ _ _ _ _ _ g _ sm2) ?_ | refine AC_snd (laws_markSystem a _ sa (by omega) m1) ?_ | refine AC_snd (laws_markSystem g _ sm2 (by omega) m2) ?_ | refine AC_snd (laws_heldSystem _ _ _ _ g _ sm2 (by omega) m2) ?_ | fail) <;> (try simp -implicitDefEqProofs (disch := first | exact dd | fail) [Tryz.f13, mkL_len])))
end Go.Proofs.YtgopfdninbknpaaGreat
