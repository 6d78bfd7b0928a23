import Derived.Test.YtgopfdninbknpaaGreatP16i
import Derived.Test.YtgopfdninbknpaaGreatP16c
namespace Go.Proofs.YtgopfdninbknpaaGreat
open Go.Fw
set_option linter.unusedVariables false
set_option linter.unusedSimpArgs false
set_option maxHeartbeats 1000000
set_option maxRecDepth 8000
theorem impl_CloseAll (n1 n2 n3 n4 : Option Bool) (s : DSystem) (k : Int) (hs : SmS s) : Snd Tryz.prog 57 [fSystem n1 n2 n3 n4 s, .int .i64 k] (rSystem (closeA s k)) [.unk, .unk] := Runs.snd (M := M) (c := ⟨2, [2, 4, 5, 6, 16, 18, 19], [], [(1, [0, 1, 2, 4, 5, 16, 18, 19])]⟩) tok ks mixed Tryz.func57 (p := []) (by kernel_rfl) (by rfl) (by rfl) <| by
 have c0 := fun a b c d => impl_copySystem a b c d s hs
 have c1 := fun a b c d => impl_IsSystem a b c d s hs
 have cp := impl_isProc k
 obtain ⟨A, hA⟩ : ∃ A, A = closeA s k := ⟨_, rfl⟩
 rw [← hA]
 unfold closeA at hA
 by_cases h0 : isSystem s = true
 rotate_left
 ·have h0' : isSystem s = false := by simpa using h0
  rw [if_neg (fun H => h0 H.1)] at hA
  subst hA
  (try simp -implicitDefEqProofs (disch := first | exact dd | fail) [Tryz.f57, h0']); (repeat' ((with_reducible first | (refine Br.out ?_ ?_ <;> intro h <;> (try (have h0 := h; simp only [bH] at h))) | refine AC_snd (c0 _ _ _ _) ?_ | refine AC_snd (c1 _ _ _ _) ?_ | fail) <;> (try simp -implicitDefEqProofs (disch := first | exact dd | fail) [Tryz.f57, h0'])))
 by_cases hk : 0 ≤ k ∧ k < 4
 rotate_left
 ·rw [if_neg (fun H => hk H.2)] at hA
  subst hA
  rw [decide_eq_false hk] at cp
  (try simp -implicitDefEqProofs (disch := first | exact dd | fail) [Tryz.f57, h0]); (repeat' ((with_reducible first | (refine Br.out ?_ ?_ <;> intro h <;> (try (have h0 := h; simp only [bH] at h))) | refine AC_snd (c0 _ _ _ _) ?_ | refine AC_snd (c1 _ _ _ _) ?_ | refine AC_snd (cp) ?_ | fail) <;> (try simp -implicitDefEqProofs (disch := first | exact dd | fail) [Tryz.f57, h0])))
 rw [if_pos ⟨h0, hk⟩] at hA
 rw [decide_eq_true hk] at cp
 have m0 := (tr_iff.1 h0).mid
 have m1 := m0.closeD (fd := 0) hk
 have m2 := m1.closeD (fd := 1) hk
 have e0 := impl_close s k 0 m0 hk
 have e1 := impl_close (closeD s k 0).1 k 1 m1 hk
 have e2 := impl_close (closeD (closeD s k 0).1 k 1).1 k 2 m2 hk
 rw [← hA] at e2
 generalize (closeD (closeD (closeD s k 0).1 k 1).1 k 2).2 = v2 at *
 generalize (closeD (closeD s k 0).1 k 1).2 = v1 at *
 generalize (closeD (closeD s k 0).1 k 1).1 = s2 at *
 generalize (closeD s k 0).2 = v0 at *
 generalize (closeD s k 0).1 = s1 at *
 clear hA m0 m1 m2
 obtain ⟨S, hS0, hS1, hS2, hS3⟩ : ∃ S : Nat → DSystem, S 0 = s ∧ S 1 = s1 ∧ S 2 = s2 ∧ S 3 = A := ⟨fun j => match j with | 0 => s | 1 => s1 | 2 => s2 | _ => A, rfl, rfl, rfl, rfl⟩
 have e : ∀ j : Nat, j < 3 → ∃ v, Snd Tryz.prog 133 [wSys (S j), .int .i64 k, .int .i64 j] (.int .i64 v) [wSys (S (j + 1)), .unk, .unk] := by
  intro j hj
  match j, hj with
  | 0, _ => rw [hS0, hS1]; exact ⟨_, e0⟩
  | 1, _ => rw [hS1, hS2]; exact ⟨_, e1⟩
  | 2, _ => rw [hS2, hS3]; exact ⟨_, e2⟩
 clear e0 e1 e2
 subst hS0 hS3
 (try simp -implicitDefEqProofs (disch := first | exact dd | fail) [Tryz.f57, h0]); (repeat' ((with_reducible first | (refine Br.out ?_ ?_ <;> intro h <;> (try (have h0 := h; simp only [bH] at h))) | refine AC_snd (c0 _ _ _ _) ?_ | refine AC_snd (c1 _ _ _ _) ?_ | refine AC_snd (cp) ?_ | fail) <;> (try simp -implicitDefEqProofs (disch := first | exact dd | fail) [Tryz.f57, h0])))
 refine AL_fors (σ := Unit) 18 3 (fun _ _ => []) (fun j _ => [(640, .box [.int .i64 (S j).fs.tick, .ref 644 none 2 0 (S j).fs.quotas.length none, .ref 646 none 10 0 (S j).fs.inodes.length none, .ref 648 none 1 0 (S j).fs.data.length none, .ref 650 none 4 0 (S j).procs.length none]), (644, .row 2 ((S j).fs.quotas.map cQuota) []), (646, .row 10 ((S j).fs.inodes.map cInode) []), (648, .row 1 ((S j).fs.data.map cs) []), (650, .row 4 ((S j).procs.map cProc) [])]) (fun _ _ => True) () rfl trivial (fun i _ n hlt _ ih => ?_) (fun _ n _ => ?_)
 ·have hi := ih () trivial
  obtain ⟨v, ev⟩ := e i hlt
  have hlt2 : (i : Int) < 3 := by omega
  (try simp -implicitDefEqProofs (disch := first | exact dd | fail) [Tryz.f57, hlt2]); (repeat' ((with_reducible first | (refine Br.out ?_ ?_ <;> intro h <;> (try (have h0 := h; simp only [bH] at h))) | refine AC_snd (ev) ?_ | fail) <;> (try simp -implicitDefEqProofs (disch := first | exact dd | fail) [Tryz.f57, hlt2])))
  all_goals first | exact hi
 ·(try simp -implicitDefEqProofs (disch := first | exact dd | fail) [Tryz.f57]); (repeat' ((with_reducible first | (refine Br.out ?_ ?_ <;> intro h <;> (try (have h0 := h; simp only [bH] at h))) | fail) <;> (try simp -implicitDefEqProofs (disch := first | exact dd | fail) [Tryz.f57])))
theorem spec_l16Close (n1 n2 n3 n4 : Option Bool) (s : DSystem) (k fd : Int) (h : Mid s) (hk : 0 ≤ k ∧ k < 4) (hb : fileB s k fd = true) : Snd Tryz.prog 131 [fSystem n1 n2 n3 n4 s, .int .i64 k, .int .i64 fd] (rSystem (closeD s k fd).1) [.unk, .unk, .unk] := Runs.snd (M := M) (c := ⟨3, [3, 6, 7, 8, 48], [], []⟩) tok ks mixed Tryz.func131 (p := []) (by kernel_rfl) (by rfl) (by rfl) <| by
 obtain ⟨A, hA⟩ : ∃ A, A = (closeD s k fd).1 := ⟨_, rfl⟩
 rw [← hA]
 unfold closeD at hA
 rw [if_pos hb] at hA
 obtain ⟨a, b, rfl, rfl, hb3, p, hp, hpl, ho, h0, hir⟩ := h.file hk hb
 have c0 := fun x y z w => spec_l16Copy x y z w s (mid_sm h)
 simp only [Int.toNat_natCast] at hA
 generalize fileAt s a b = o at *
 obtain ⟨i, hi⟩ := Int.eq_ofNat_of_zero_le hir.1
 have hi1 : i < s.fs.inodes.length := by rw [h.fs.ni]; omega
 obtain ⟨hal, rfl⟩ := List.getElem?_eq_some_iff.1 hp
 have hbl : b < s.procs[a].files.length := by omega
 have hob : s.procs[a].files[b] = o := by rw [List.getElem?_eq_getElem hbl] at ho; exact Option.some.inj ho
 have hm := mid_set (k := a) (fd := b) h
 have hms := mid_sm hm
 have c2 := fun x y z w => spec_l16Busy x y z w ⟨s.fs, setOpen s.procs a b zOpen⟩ hms
 have hbl2 := busyT_len (ps := setOpen s.procs a b zOpen) (k := 20)
 have c5 := fun x => spec_l02Has x (busyT (setOpen s.procs a b zOpen) 20) (i : Int) (by omega)
 have hmb := mem_busy (ps := setOpen s.procs a b zOpen) (k := 20) (i := (i : Int))
 have hrow : (s.procs.map cProc).set a (cProc ⟨s.procs[a].cred, s.procs[a].files.set b zOpen⟩) = (setOpen s.procs a b zOpen).map cProc := by
  rw [setOpen_at hal]; exact List.map_set.symm
 have hpl2 : (setOpen s.procs a b zOpen).length = s.procs.length := setOpen_len
 simp only [cProc, List.map_set] at hrow
 have hzo : cOpen zOpen = [.int .i64 0, .int .i64 0, .int .i64 0] := rfl
 rw [hzo] at hrow
 unfold closeG at hA
 rw [hi, inodeAt_nat hi1] at hA
 generalize setOpen s.procs a b zOpen = Q at *
 simp only at c2
 have hQt : List.take s.procs.length (Q.map cProc) = Q.map cProc := List.take_of_length_le (by simp; omega)
 have hbk := (h.fs.blks (List.getElem_mem hi1)).2.2
 have c3 := fun x y z => spec_l09Free x y z s.fs i (SmF.of h.fs) ⟨by omega, by omega⟩ h.fs.ni h.fs.nd (by rw [inodeAt_nat hi1]; exact hbk)
 have hob2 : decide ((i : Int) ∈ busyT Q 20) = openB Q i := by
  rw [Bool.eq_iff_iff, decide_eq_true_eq, hmb]
  constructor
  ·exact fun H => H.2.2
  ·exact fun H => ⟨by omega, by omega, H⟩
 rw [hob2] at c5
 generalize busyT Q 20 = Z at *
 by_cases hl : s.fs.inodes[i].links = 0
 ·generalize openB Q i = ob at *
  cases ob with
  | true =>
   simp at hA
   subst hA
   (try simp -implicitDefEqProofs (disch := first | exact dd | fail) [Tryz.f131, hal, hbl, hi, hi1, hob, hl, hrow, hpl2, hQt, cProc, cOpen, cInode]); (repeat' ((with_reducible first | (refine Br.out ?_ ?_ <;> intro h <;> (try (have h0 := h; simp only [bH] at h))) | refine AC_snd (c0 _ _ _ _) ?_ | refine AC_snd (c2 _ _ _ _) ?_ | refine AC_snd (c5 _) ?_ | fail) <;> (try simp -implicitDefEqProofs (disch := first | exact dd | fail) [Tryz.f131, hal, hbl, hi, hi1, hob, hl, hrow, hpl2, hQt, cProc, cOpen, cInode])))
  | false =>
   by_cases hi0 : (i : Int) = 0
   ·simp [hi0] at hA
    subst hA
    (try simp -implicitDefEqProofs (disch := first | exact dd | fail) [Tryz.f131, hal, hbl, hi, hi1, hob, hl, hrow, hpl2, hQt, cProc, cOpen, cInode]); (repeat' ((with_reducible first | (refine Br.out ?_ ?_ <;> intro h <;> (try (have h0 := h; simp only [bH] at h))) | refine AC_snd (c0 _ _ _ _) ?_ | refine AC_snd (c2 _ _ _ _) ?_ | refine AC_snd (c5 _) ?_ | fail) <;> (try simp -implicitDefEqProofs (disch := first | exact dd | fail) [Tryz.f131, hal, hbl, hi, hi1, hob, hl, hrow, hpl2, hQt, cProc, cOpen, cInode])))
    all_goals first | (exfalso; omega)
   ·generalize freeF s.fs i = g at *
    simp [hi0, hl, show ¬ i = 0 by omega] at hA
    subst hA
    (try simp -implicitDefEqProofs (disch := first | exact dd | fail) [Tryz.f131, hal, hbl, hi, hi1, hob, hl, hi0, show ¬ i = 0 by omega, hrow, hpl2, hQt, cProc, cOpen, cInode]); (repeat' ((with_reducible first | (refine Br.out ?_ ?_ <;> intro h <;> (try (have h0 := h; simp only [bH] at h))) | refine AC_snd (c0 _ _ _ _) ?_ | refine AC_snd (c2 _ _ _ _) ?_ | refine AC_snd (c5 _) ?_ | refine AC_snd (c3 _ _ _) ?_ | fail) <;> (try simp -implicitDefEqProofs (disch := first | exact dd | fail) [Tryz.f131, hal, hbl, hi, hi1, hob, hl, hi0, show ¬ i = 0 by omega, hrow, hpl2, hQt, cProc, cOpen, cInode])))
 ·simp [hl] at hA
  subst hA
  (try simp -implicitDefEqProofs (disch := first | exact dd | fail) [Tryz.f131, hal, hbl, hi, hi1, hob, hl, hrow, hpl2, hQt, cProc, cOpen, cInode]); (repeat' ((with_reducible first | (refine Br.out ?_ ?_ <;> intro h <;> (try (have h0 := h; simp only [bH] at h))) | refine AC_snd (c0 _ _ _ _) ?_ | fail) <;> (try simp -implicitDefEqProofs (disch := first | exact dd | fail) [Tryz.f131, hal, hbl, hi, hi1, hob, hl, hrow, hpl2, hQt, cProc, cOpen, cInode])))
end Go.Proofs.YtgopfdninbknpaaGreat
