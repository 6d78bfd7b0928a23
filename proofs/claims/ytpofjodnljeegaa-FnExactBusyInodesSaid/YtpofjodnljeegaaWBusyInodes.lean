import Derived.Test.YtpofjodnljeegaaWC
import Derived.Test.YtpofjodnljeegaaP16d
namespace Go.Proofs.Ytpofjodnljeegaa
open Go.Fw
set_option linter.unusedVariables false
set_option linter.unusedSimpArgs false
set_option maxHeartbeats 8000000
set_option maxRecDepth 8000
theorem nLOpen_eq (xs : List DOpen) : nLOpen xs = 3 * xs.length := by
 show wList (fun _ => 3) xs = _
 induction xs with
 | nil => rfl
 | cons x xs ih => simp only [wList, ih, List.length_cons]; omega
theorem ntSystem_le (s : DSystem) : ntSystem s ≤ 14 * wSystem s := by
 have h1 := ntFS_le s.fs
 have h2 : nLProc s.procs ≤ 14 * wLProc s.procs := by
  unfold wLProc
  induction s.procs with
  | nil => exact Nat.zero_le _
  | cons x xs ih =>
   have a1 := nLInt_eq x.cred.groups
   have a2 := nLOpen_eq x.files
   simp only [nLProc, wList, List.length_cons, nmProc, wProc, wCred, ntCred] at *
   omega
 simp only [ntSystem, wSystem] at *
 omega
theorem laws_FnExactBusyInodes (n1 n2 n3 n4 : Option Bool) (a : DSystem) (ha : WfSystem a) : Snd Try.prog 8 [fSystem n1 n2 n3 n4 a] (.bool true) [.unk] := Runs.snd (M := M) (c := ⟨1, [1, 2, 3, 4, 5, 6, 7, 8, 9, 10, 15, 26, 31, 42, 50, 53, 60, 65, 68], [], []⟩) tok ks mixed Try.func8 (p := []) (by kernel_rfl) (by rfl) (by rfl) <| by
 (try simp -implicitDefEqProofs (disch := first | exact dd | fail) [Try.f8]); (repeat' ((with_reducible first | (refine Br.out ?_ ?_ <;> intro h <;> (try (have h0 := h; simp only [bH] at h))) | refine AC_snd (laws_szSystem _ _ _ _ a _ (by omega) (by omega) ha) ?_ | fail) <;> (try simp -implicitDefEqProofs (disch := first | exact dd | fail) [Try.f8])))
 have q1 := szR_ge (Int.not_lt.1 (by assumption))
 have sa : SmSystem a := smSystem_of (by omega)
 have m1 : (1 : Int) + ntSystem a ≤ 16777216 := by have := ntSystem_le a; omega
 have hi := impl_BusyInodes none none none none a (smS sa)
 have hsp := spec_BusyInodes none none none none a (smS sa)
 obtain ⟨R, hR⟩ : ∃ R, R = busyI a := ⟨_, rfl⟩
 have hRl : R.length ≤ 1048576 := by
  have := busyT_len (ps := a.procs) (k := 20)
  rw [hR, busyI]
  split
  ·omega
  ·simp
 rw [← hR] at hi hsp
 have m2 : (1 : Int) + nLInt R ≤ 16777216 := by rw [nLInt_eq]; omega
 have l1 : R.length ≤ maxLen := by unfold maxLen; omega
 (try simp -implicitDefEqProofs (disch := first | exact dd | fail) [Try.f8, mkL_len]); (repeat' ((with_reducible first | (refine Br.out ?_ ?_ <;> intro h <;> (try (have h0 := h; simp only [bH] at h))) | refine AC_snd (laws_toSystem _ _ _ _ a sa) ?_ | refine AC_snd (hsp) ?_ | refine AC_snd (hi) ?_ | refine AC_snd (laws_eqSystem _ _ _ _ _ _ _ _ a _ sa) ?_ | refine AC_snd (laws_eqIntS _ _ R _ l1) ?_ | refine AC_snd (laws_eqIntS _ _ R _ hRl) ?_ | refine AC_snd (laws_markSystem a _ sa (by omega) m1) ?_ | refine AC_snd (laws_markIntS R _ hRl (by omega) m2) ?_ | refine AC_snd (laws_heldIntS _ R _ hRl (by omega) m2) ?_ | fail) <;> (try simp -implicitDefEqProofs (disch := first | exact dd | fail) [Try.f8, mkL_len])))
end Go.Proofs.Ytpofjodnljeegaa
