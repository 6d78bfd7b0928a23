import Derived.Test.YtgopfdninbknpaaGreatP16g
import Derived.Test.YtgopfdninbknpaaGreatP16b
namespace Go.Proofs.YtgopfdninbknpaaGreat
open Go.Fw
set_option linter.unusedVariables false
set_option linter.unusedSimpArgs false
set_option maxHeartbeats 1000000
set_option maxRecDepth 8000
theorem mid_set {s : DSystem} {k fd : Nat} (h : Mid s) : Mid ⟨s.fs, setOpen s.procs k fd zOpen⟩ := by
 have := h.closeG (k := k) (fd := fd) (i := 0) (by decide)
 unfold closeG at this
 simpa using this
theorem impl_close (s : DSystem) (k fd : Int) (h : Mid s) (hk : 0 ≤ k ∧ k < 4) : Snd Tryz.prog 133 [wSys s, .int .i64 k, .int .i64 fd] (.int .i64 (closeD s k fd).2) [wSys (closeD s k fd).1, .unk, .unk] := Runs.snd (M := M) (c := ⟨3, [6, 7, 8, 14, 37], [], []⟩) tok ks mixed Tryz.func133 (p := [0]) (by kernel_rfl) (by rfl) (by rfl) <| by
 obtain ⟨A, hA⟩ : ∃ A, A = closeD s k fd := ⟨_, rfl⟩
 rw [← hA]
 unfold closeD at hA
 by_cases hb : fileB s k fd = true
 rotate_left
 ·rw [if_neg hb] at hA
  subst hA
  have c1 := impl_file_no s k fd h hk (by simpa using hb)
  (try simp -implicitDefEqProofs (disch := first | exact dd | fail) [Tryz.f133]); (repeat' ((with_reducible first | (refine Br.out ?_ ?_ <;> intro h <;> (try (have h0 := h; simp only [bH] at h))) | refine AC_snd (c1) ?_ | fail) <;> (try simp -implicitDefEqProofs (disch := first | exact dd | fail) [Tryz.f133])))
 rw [if_pos hb] at hA
 obtain ⟨a, b, rfl, rfl, hb3, p, hp, hpl, ho, h0, hir⟩ := h.file hk hb
 have c1 := impl_file s a b p _ hp ho hpl h0
 simp only [Int.toNat_natCast] at hA
 generalize fileAt s a b = o at *
 obtain ⟨i, hi⟩ := Int.eq_ofNat_of_zero_le hir.1
 have hi1 : i < s.fs.inodes.length := by rw [h.fs.ni]; omega
 obtain ⟨hal, rfl⟩ := List.getElem?_eq_some_iff.1 hp
 have hbl : b < s.procs[a].files.length := by omega
 have hob : s.procs[a].files[b] = o := by rw [List.getElem?_eq_getElem hbl] at ho; exact Option.some.inj ho
 have hm := mid_set (k := a) (fd := b) h
 have hms := mid_sm hm
 have c2 := fun x y z w => impl_isOpen x y z w ⟨s.fs, setOpen s.procs a b zOpen⟩ i hms
 have hrow : (s.procs.map cProc).set a (cProc ⟨s.procs[a].cred, s.procs[a].files.set b zOpen⟩) = (setOpen s.procs a b zOpen).map cProc := by
  rw [setOpen_at hal]; exact List.map_set.symm
 have hpl2 : (setOpen s.procs a b zOpen).length = s.procs.length := setOpen_len
 simp only [cProc, List.map_set] at hrow
 have hzo : cOpen zOpen = [.int .i64 0, .int .i64 0, .int .i64 0] := rfl
 rw [hzo] at hrow
 unfold closeG at hA
 rw [hi, inodeAt_nat hi1] at hA
 generalize setOpen s.procs a b zOpen = Q at *
 simp only at c2
 have hQt : List.take s.procs.length (Q.map cProc) = Q.map cProc := List.take_of_length_le (by simp; omega)
 have hbk := (h.fs.blks (List.getElem_mem hi1)).2.2
 have c3 := fun h0 => impl_free s.fs i (SmF.of h.fs) ⟨by omega, by omega⟩ h.fs.ni h0 h.fs.nd (by rw [inodeAt_nat hi1]; exact hbk)
 by_cases hl : s.fs.inodes[i].links = 0
 ·generalize openB Q i = ob at *
  cases ob with
  | true =>
   simp at hA
   subst hA
   (try simp -implicitDefEqProofs (disch := first | exact dd | fail) [Tryz.f133, hal, hbl, hi, hi1, hob, hl, hrow, hpl2, hQt, cProc, cOpen, cInode]); (repeat' ((with_reducible first | (refine Br.out ?_ ?_ <;> intro h <;> (try (have h0 := h; simp only [bH] at h))) | refine AC_snd (c1) ?_ | refine AC_snd (c2 _ _ _ _) ?_ | fail) <;> (try simp -implicitDefEqProofs (disch := first | exact dd | fail) [Tryz.f133, hal, hbl, hi, hi1, hob, hl, hrow, hpl2, hQt, cProc, cOpen, cInode])))
  | false =>
   by_cases hi0 : (i : Int) = 0
   ·have c4 := impl_free0 s.fs
    rw [← hi0] at c4
    simp [hi0] at hA
    subst hA
    (try simp -implicitDefEqProofs (disch := first | exact dd | fail) [Tryz.f133, hal, hbl, hi, hi1, hob, hl, hrow, hpl2, hQt, cProc, cOpen, cInode]); (repeat' ((with_reducible first | (refine Br.out ?_ ?_ <;> intro h <;> (try (have h0 := h; simp only [bH] at h))) | refine AC_snd (c1) ?_ | refine AC_snd (c2 _ _ _ _) ?_ | refine AC_snd (c4) ?_ | fail) <;> (try simp -implicitDefEqProofs (disch := first | exact dd | fail) [Tryz.f133, hal, hbl, hi, hi1, hob, hl, hrow, hpl2, hQt, cProc, cOpen, cInode])))
   ·have c4 := c3 hi0
    generalize freeF s.fs i = g at *
    simp [hi0, hl, show ¬ i = 0 by omega] at hA
    subst hA
    (try simp -implicitDefEqProofs (disch := first | exact dd | fail) [Tryz.f133, hal, hbl, hi, hi1, hob, hl, hrow, hpl2, hQt, cProc, cOpen, cInode]); (repeat' ((with_reducible first | (refine Br.out ?_ ?_ <;> intro h <;> (try (have h0 := h; simp only [bH] at h))) | refine AC_snd (c1) ?_ | refine AC_snd (c2 _ _ _ _) ?_ | refine AC_snd (c4) ?_ | fail) <;> (try simp -implicitDefEqProofs (disch := first | exact dd | fail) [Tryz.f133, hal, hbl, hi, hi1, hob, hl, hrow, hpl2, hQt, cProc, cOpen, cInode])))
 ·simp [hl] at hA
  subst hA
  (try simp -implicitDefEqProofs (disch := first | exact dd | fail) [Tryz.f133, hal, hbl, hi, hi1, hob, hl, hrow, hpl2, hQt, cProc, cOpen, cInode]); (repeat' ((with_reducible first | (refine Br.out ?_ ?_ <;> intro h <;> (try (have h0 := h; simp only [bH] at h))) | refine AC_snd (c1) ?_ | fail) <;> (try simp -implicitDefEqProofs (disch := first | exact dd | fail) [Tryz.f133, hal, hbl, hi, hi1, hob, hl, hrow, hpl2, hQt, cProc, cOpen, cInode])))
end Go.Proofs.YtgopfdninbknpaaGreat
