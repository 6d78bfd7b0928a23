import Derived.Test.YtgopfdninbknpaaGreatWSys
import Derived.Test.YtgopfdninbknpaaGreatP16h
namespace Go.Proofs.YtgopfdninbknpaaGreat
open Go.Fw
set_option linter.unusedVariables false
set_option linter.unusedSimpArgs false
set_option maxHeartbeats 8000000
set_option maxRecDepth 8000
theorem newSys_sm {f : DFS} {cs : List DCred} : SmSystem (newSys f cs) ∧ (1 : Int) + ntSystem (newSys f cs) ≤ 16777216 := by
 unfold newSys
 split
 ·rename_i h
  exact mid_tiny (tr_iff.1 h).mid
 ·exact ⟨⟨⟨by simp [zSys], by simp [zSys], by simp [zSys], by simp [zSys]⟩, by simp [zSys], by simp [zSys]⟩, by decide⟩
theorem nLCred_le (xs : List DCred) : nLCred xs ≤ 2 * wLCred xs := by
 unfold wLCred
 induction xs with
 | nil => exact Nat.zero_le _
 | cons x xs ih =>
  have a1 := nLInt_eq x.groups
  simp only [nLCred, wList, List.length_cons, nmCred, wCred] at *
  omega
theorem laws_FnExactNewSystem (n1 n2 n3 n4 : Option Bool) (f : DFS) (cs : List DCred) (hf : WfFS f) (h1 : cs.length ≤ maxLen) (g1 : ∀ y ∈ cs, WfCred y) : Snd Tryz.prog 11 [fFS n1 n2 n3 f, .frz 3 n4 (cs.map cCred)] (.bool true) [.unk, .unk] := Runs.snd (M := M) (c := ⟨2, [2, 4, 5, 6, 7, 8, 9, 10, 11, 12, 13, 18, 23, 39, 44, 49, 63, 71, 74, 83, 88, 91], [], []⟩) tok ks mixed Tryz.func11 (p := []) (by kernel_rfl) (by rfl) (by rfl) <| by
 (try simp -implicitDefEqProofs (disch := first | exact dd | fail) [Tryz.f11]); (repeat' ((with_reducible first | (refine Br.out ?_ ?_ <;> intro h <;> (try (have h0 := h; simp only [bH] at h))) | refine AC_snd (laws_szFS _ _ _ f _ (by omega) (by omega) hf) ?_ | fail) <;> (try simp -implicitDefEqProofs (disch := first | exact dd | fail) [Tryz.f11])))
 have q1 := szR_ge (Int.not_lt.1 (‹¬ szR (wFS f) 1048576 < 0›))
 have sf : SmFS f := smFS_of (by omega)
 (try simp -implicitDefEqProofs (disch := first | exact dd | fail) [Tryz.f11]); (repeat' ((with_reducible first | (refine Br.out ?_ ?_ <;> intro h <;> (try (have h0 := h; simp only [bH] at h))) | refine AC_snd (laws_szCredS _ cs _ (by omega) (by omega) h1 g1) ?_ | fail) <;> (try simp -implicitDefEqProofs (disch := first | exact dd | fail) [Tryz.f11])))
 have q2 := szR_ge (Int.not_lt.1 (by assumption))
 have hw : wLCred cs = cs.length + wList wCred cs := rfl
 have hl : cs.length ≤ 1048576 := by omega
 have hx : ∀ x ∈ cs, SmCred x := fun x hx => smCred_of (by have := wList_mem (f := wCred) hx; omega)
 have m1 : (1 : Int) + ntFS f ≤ 8388608 := by have := ntFS_le f; omega
 have m1' : (1 : Int) + ntFS f ≤ 16777216 := by omega
 have hsp := spec_NewSystem none none none none f cs (smF sf) hl (fun c hc => (hx c hc).hl_groups)
 have hip := impl_NewSystem none none none none f cs (smF sf) hl (fun c hc => (hx c hc).hl_groups)
 obtain ⟨sm2, m2⟩ := newSys_sm (f := dropO f []) (cs := cs)
 have hn2 := nLCred_le cs
 simp only [ntFS] at m1
 generalize newSys (dropO f []) cs = g at *
 (try simp -implicitDefEqProofs (disch := first | exact dd | fail) [Tryz.f11, mkL_len]); (repeat' ((with_reducible first | (refine Br.out ?_ ?_ <;> intro h <;> (try (have h0 := h; simp only [bH] at h))) | refine AC_snd (laws_toFS _ _ _ f sf) ?_ | refine AC_snd (laws_toCredS _ cs hl hx) ?_ | refine AC_snd (hsp) ?_ | refine AC_snd (hip) ?_ | refine AC_snd (laws_eqSystem _ _ _ _ _ _ _ _ g _ sm2) ?_ | refine AC_snd (laws_eqFS _ _ _ _ _ _ f _ sf) ?_ | refine AC_snd (laws_eqCredS _ _ cs _ hl hx) ?_ | refine AC_snd (laws_markFS f _ sf (by omega) m1') ?_ | refine AC_snd (laws_markCredS cs _ hl (by omega) (by omega) hx) ?_ | refine AC_snd (laws_markSystem g _ sm2 (by omega) m2) ?_ | refine AC_snd (laws_heldSystem _ _ _ _ g _ sm2 (by omega) m2) ?_ | fail) <;> (try simp -implicitDefEqProofs (disch := first | exact dd | fail) [Tryz.f11, mkL_len])))
end Go.Proofs.YtgopfdninbknpaaGreat
