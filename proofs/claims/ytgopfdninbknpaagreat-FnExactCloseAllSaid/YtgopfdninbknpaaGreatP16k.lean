import Derived.Test.YtgopfdninbknpaaGreatP16j
namespace Go.Proofs.YtgopfdninbknpaaGreat
open Go.Fw
set_option linter.unusedVariables false
set_option linter.unusedSimpArgs false
set_option maxHeartbeats 1000000
set_option maxRecDepth 8000
theorem fileB_no {s : DSystem} {a b : Nat} (hal : a < s.procs.length) (hpl : s.procs[a].files.length = 3) (hb3 : b < 3) (hb : fileB s a b = false) : (s.procs[a].files[b]'(by omega)).flags = 0 := by
 have e : fileAt s a b = s.procs[a].files[b]'(by omega) := by simp [fileAt, procAt, hal, show b < s.procs[a].files.length by omega]
 unfold fileB at hb
 rw [e] at hb
 have h1 : decide (0 ≤ (b : Int) ∧ (b : Int) < 3) = true := by simp; omega
 rw [h1] at hb
 simpa using hb
theorem spec_CloseAll (n1 n2 n3 n4 : Option Bool) (s : DSystem) (k : Int) (hs : SmS s) : Snd Tryz.prog 56 [fSystem n1 n2 n3 n4 s, .int .i64 k] (rSystem (closeA s k)) [.unk, .unk] := Runs.snd (M := M) (c := ⟨2, [2, 4, 5, 6, 16, 19, 32], [], []⟩) tok ks mixed Tryz.func56 (p := []) (by kernel_rfl) (by rfl) (by rfl) <| by
 have c0 := fun a b c d => spec_l16Copy a b c d s hs
 have c1 := fun a b c d => spec_IsSystem a b c d s hs
 obtain ⟨A, hA⟩ : ∃ A, A = closeA s k := ⟨_, rfl⟩
 rw [← hA]
 unfold closeA at hA
 by_cases h0 : isSystem s = true
 rotate_left
 ·have h0' : isSystem s = false := by simpa using h0
  rw [if_neg (fun H => h0 H.1)] at hA
  subst hA
  (try simp -implicitDefEqProofs (disch := first | exact dd | fail) [Tryz.f56, h0']); (repeat' ((with_reducible first | (refine Br.out ?_ ?_ <;> intro h <;> (try (have h0 := h; simp only [bH] at h))) | refine AC_snd (c0 _ _ _ _) ?_ | refine AC_snd (c1 _ _ _ _) ?_ | refine AC_snd (spec_l01In _ _ _) ?_ | fail) <;> (try simp -implicitDefEqProofs (disch := first | exact dd | fail) [Tryz.f56, h0'])))
 by_cases hk : 0 ≤ k ∧ k < 4
 rotate_left
 ·rw [if_neg (fun H => hk H.2)] at hA
  subst hA
  (try simp -implicitDefEqProofs (disch := first | exact dd | fail) [Tryz.f56, h0]); (repeat' ((with_reducible first | (refine Br.out ?_ ?_ <;> intro h <;> (try (have h0 := h; simp only [bH] at h))) | refine AC_snd (c0 _ _ _ _) ?_ | refine AC_snd (c1 _ _ _ _) ?_ | refine AC_snd (spec_l01In _ _ _) ?_ | fail) <;> (try simp -implicitDefEqProofs (disch := first | exact dd | fail) [Tryz.f56, h0])))
  all_goals first | (exfalso; omega)
 rw [if_pos ⟨h0, hk⟩] at hA
 have m0 := (tr_iff.1 h0).mid
 have m1 := m0.closeD (fd := 0) hk
 have m2 := m1.closeD (fd := 1) hk
 have k1 := hk.1
 have k2 : k ≤ 3 := by omega
 obtain ⟨S, hS0, hS1, hS2, hS3⟩ : ∃ S : Nat → DSystem, S 0 = s ∧ S 1 = (closeD s k 0).1 ∧ S 2 = (closeD (closeD s k 0).1 k 1).1 ∧ S 3 = A := ⟨fun j => match j with | 0 => s | 1 => (closeD s k 0).1 | 2 => (closeD (closeD s k 0).1 k 1).1 | _ => A, rfl, rfl, rfl, rfl⟩
 have e : ∀ j : Nat, j < 3 → Mid (S j) ∧ S (j + 1) = (closeD (S j) k j).1 := by
  intro j hj
  match j, hj with
  | 0, _ => rw [hS0, hS1]; exact ⟨m0, rfl⟩
  | 1, _ => rw [hS1, hS2]; exact ⟨m1, rfl⟩
  | 2, _ => rw [hS2, hS3]; exact ⟨m2, hA⟩
 clear hA m0 m1 m2 hS1 hS2
 subst hS0 hS3
 (try simp -implicitDefEqProofs (disch := first | exact dd | fail) [Tryz.f56, h0, k1, k2]); (repeat' ((with_reducible first | (refine Br.out ?_ ?_ <;> intro h <;> (try (have h0 := h; simp only [bH] at h))) | refine AC_snd (c0 _ _ _ _) ?_ | refine AC_snd (c1 _ _ _ _) ?_ | refine AC_snd (spec_l01In _ _ _) ?_ | fail) <;> (try simp -implicitDefEqProofs (disch := first | exact dd | fail) [Tryz.f56, h0, k1, k2])))
 refine AL_fors (σ := Unit) 6 3 (fun _ _ => []) (fun j _ => [(640, .box [.int .i64 (S j).fs.tick, .ref 644 none 2 0 (S j).fs.quotas.length none, .ref 646 none 10 0 (S j).fs.inodes.length none, .ref 648 none 1 0 (S j).fs.data.length none, .ref 650 none 4 0 (S j).procs.length none]), (644, .row 2 ((S j).fs.quotas.map cQuota) []), (646, .row 10 ((S j).fs.inodes.map cInode) []), (648, .row 1 ((S j).fs.data.map cs) []), (650, .row 4 ((S j).procs.map cProc) [])]) (fun _ _ => True) () rfl trivial (fun i _ n hlt _ ih => ?_) (fun _ n _ => ?_)
 ·have hi := ih () trivial
  obtain ⟨hm, hn⟩ := e i hlt
  have hlt2 : (i : Int) < 3 := by omega
  obtain ⟨a, rfl⟩ := Int.eq_ofNat_of_zero_le hk.1
  generalize hSi : S i = si at *
  have hal : a < si.procs.length := by rw [hm.np]; omega
  have hpl := (hm.proc _ (List.getElem_mem hal)).2.1
  have hbl : i < si.procs[a].files.length := by omega
  by_cases hb : fileB si a i = true
  ·obtain ⟨a', b', ha', hb', -, p, hp, -, ho, hf0, -⟩ := hm.file hk hb
   obtain rfl : a = a' := by omega
   obtain rfl : i = b' := by omega
   have hf0' : ¬ si.procs[a].files[i].flags = 0 := by
    obtain ⟨hx1, rfl⟩ := List.getElem?_eq_some_iff.1 hp
    rw [List.getElem?_eq_getElem hbl] at ho
    injection ho with ho
    rw [ho]
    exact hf0
   have ev := fun x y z w => spec_l16Close x y z w si a i hm hk hb
   rw [← hn] at ev
   generalize S (i + 1) = sj at *
   (try simp -implicitDefEqProofs (disch := first | exact dd | fail) [Tryz.f56, hlt2, hal, hbl, hf0', cProc, cOpen]); (repeat' ((with_reducible first | (refine Br.out ?_ ?_ <;> intro h <;> (try (have h0 := h; simp only [bH] at h))) | refine AC_snd (ev _ _ _ _) ?_ | fail) <;> (try simp -implicitDefEqProofs (disch := first | exact dd | fail) [Tryz.f56, hlt2, hal, hbl, hf0', cProc, cOpen])))
   all_goals first | exact hi
  ·have hb' : fileB si a i = false := by simpa using hb
   have hf0 := fileB_no hal hpl hlt hb'
   have hn2 : S (i + 1) = si := by
    rw [hn]
    unfold closeD
    rw [if_neg hb]
   rw [hn2] at hi
   (try simp -implicitDefEqProofs (disch := first | exact dd | fail) [Tryz.f56, hlt2, hal, hbl, hf0, cProc, cOpen]); (repeat' ((with_reducible first | (refine Br.out ?_ ?_ <;> intro h <;> (try (have h0 := h; simp only [bH] at h))) | fail) <;> (try simp -implicitDefEqProofs (disch := first | exact dd | fail) [Tryz.f56, hlt2, hal, hbl, hf0, cProc, cOpen])))
   all_goals first | exact hi
 ·(try simp -implicitDefEqProofs (disch := first | exact dd | fail) [Tryz.f56]); (repeat' ((with_reducible first | (refine Br.out ?_ ?_ <;> intro h <;> (try (have h0 := h; simp only [bH] at h))) | fail) <;> (try simp -implicitDefEqProofs (disch := first | exact dd | fail) [Tryz.f56])))
theorem spec_CloseFile (n1 n2 n3 n4 : Option Bool) (s : DSystem) (k fd : Int) (hs : SmS s) : Snd Tryz.prog 54 [fSystem n1 n2 n3 n4 s, .int .i64 k, .int .i64 fd] (.tup [rSystem (closeO s k fd).1, .int .i64 (closeO s k fd).2]) [.unk, .unk, .unk] := Runs.snd (M := M) (c := ⟨3, [3, 6, 7, 15, 33], [], []⟩) tok ks mixed Tryz.func54 (p := []) (by kernel_rfl) (by rfl) (by rfl) <| by
 have c0 := fun a b c d => spec_l16Copy a b c d s hs
 have c1 := fun a b c d => spec_IsSystem a b c d s hs
 unfold closeO
 by_cases h0 : isSystem s = true
 rotate_left
 ·have h0' : isSystem s = false := by simpa using h0
  rw [if_neg (fun H => h0 H.1)]
  (try simp -implicitDefEqProofs (disch := first | exact dd | fail) [Tryz.f54, h0']); (repeat' ((with_reducible first | (refine Br.out ?_ ?_ <;> intro h <;> (try (have h0 := h; simp only [bH] at h))) | refine AC_snd (c0 _ _ _ _) ?_ | refine AC_snd (c1 _ _ _ _) ?_ | refine AC_snd (spec_l01In _ _ _) ?_ | fail) <;> (try simp -implicitDefEqProofs (disch := first | exact dd | fail) [Tryz.f54, h0'])))
 by_cases hk : 0 ≤ k ∧ k < 4
 rotate_left
 ·rw [if_neg (fun H => hk H.2)]
  (try simp -implicitDefEqProofs (disch := first | exact dd | fail) [Tryz.f54, h0]); (repeat' ((with_reducible first | (refine Br.out ?_ ?_ <;> intro h <;> (try (have h0 := h; simp only [bH] at h))) | refine AC_snd (c0 _ _ _ _) ?_ | refine AC_snd (c1 _ _ _ _) ?_ | refine AC_snd (spec_l01In _ _ _) ?_ | fail) <;> (try simp -implicitDefEqProofs (disch := first | exact dd | fail) [Tryz.f54, h0])))
  all_goals first | (exfalso; omega)
 rw [if_pos ⟨h0, hk⟩]
 have hm := (tr_iff.1 h0).mid
 have k1 := hk.1
 have k2 : k ≤ 3 := by omega
 obtain ⟨a, rfl⟩ := Int.eq_ofNat_of_zero_le hk.1
 have hal : a < s.procs.length := by rw [hm.np]; omega
 have hpl := (hm.proc _ (List.getElem_mem hal)).2.1
 by_cases hb : fileB s a fd = true
 ·obtain ⟨a', b, ha', rfl, hb3, p, hp, -, ho, hf0, -⟩ := hm.file hk hb
  obtain rfl : a = a' := by omega
  have hbl : b < s.procs[a].files.length := by omega
  have hf0' : ¬ s.procs[a].files[b].flags = 0 := by
   obtain ⟨hx1, rfl⟩ := List.getElem?_eq_some_iff.1 hp
   rw [List.getElem?_eq_getElem hbl] at ho
   injection ho with ho
   rw [ho]
   exact hf0
  have ev := fun x y z w => spec_l16Close x y z w s a b hm hk hb
  have hcode : (closeD s a b).2 = 0 := by
   unfold closeD
   rw [if_pos hb]
  rw [hcode]
  generalize (closeD s a b).1 = s2 at *
  have g1 : (b : Int) ≤ 2 := by omega
  (try simp -implicitDefEqProofs (disch := first | exact dd | fail) [Tryz.f54, h0, k1, k2, g1, hal, hbl, hf0', cProc, cOpen]); (repeat' ((with_reducible first | (refine Br.out ?_ ?_ <;> intro h <;> (try (have h0 := h; simp only [bH] at h))) | refine AC_snd (c0 _ _ _ _) ?_ | refine AC_snd (c1 _ _ _ _) ?_ | refine AC_snd (spec_l01In _ _ _) ?_ | refine AC_snd (ev _ _ _ _) ?_ | fail) <;> (try simp -implicitDefEqProofs (disch := first | exact dd | fail) [Tryz.f54, h0, k1, k2, g1, hal, hbl, hf0', cProc, cOpen])))
  all_goals first | (exfalso; omega)
 ·have hb' : fileB s a fd = false := by simpa using hb
  have hcl : closeD s a fd = (s, 13) := by
   unfold closeD
   rw [if_neg hb]
  rw [hcl]
  by_cases hfd : 0 ≤ fd ∧ fd < 3
  ·obtain ⟨b, rfl⟩ := Int.eq_ofNat_of_zero_le hfd.1
   have hb3 : b < 3 := by omega
   have hbl : b < s.procs[a].files.length := by omega
   have hf0 := fileB_no hal hpl hb3 hb'
   have g1 : (b : Int) ≤ 2 := by omega
   (try simp -implicitDefEqProofs (disch := first | exact dd | fail) [Tryz.f54, h0, k1, k2, g1, hal, hbl, hf0, cProc, cOpen]); (repeat' ((with_reducible first | (refine Br.out ?_ ?_ <;> intro h <;> (try (have h0 := h; simp only [bH] at h))) | refine AC_snd (c0 _ _ _ _) ?_ | refine AC_snd (c1 _ _ _ _) ?_ | refine AC_snd (spec_l01In _ _ _) ?_ | fail) <;> (try simp -implicitDefEqProofs (disch := first | exact dd | fail) [Tryz.f54, h0, k1, k2, g1, hal, hbl, hf0, cProc, cOpen])))
   all_goals first | (exfalso; omega)
  ·(try simp -implicitDefEqProofs (disch := first | exact dd | fail) [Tryz.f54, h0, k1, k2]); (repeat' ((with_reducible first | (refine Br.out ?_ ?_ <;> intro h <;> (try (have h0 := h; simp only [bH] at h))) | refine AC_snd (c0 _ _ _ _) ?_ | refine AC_snd (c1 _ _ _ _) ?_ | refine AC_snd (spec_l01In _ _ _) ?_ | fail) <;> (try simp -implicitDefEqProofs (disch := first | exact dd | fail) [Tryz.f54, h0, k1, k2])))
   all_goals first | (exfalso; omega)
end Go.Proofs.YtgopfdninbknpaaGreat
