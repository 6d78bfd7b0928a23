import Derived.Test.YtiafmpcmmohdkaaGreatP10
import Derived.Test.YtiafmpcmmohdkaaGreatP14d
import Derived.Test.YtiafmpcmmohdkaaGreatP14f
import Derived.Test.YtiafmpcmmohdkaaGreatP14h
import Derived.Test.YtiafmpcmmohdkaaGreatMC
import Derived.Test.YtiafmpcmmohdkaaGreatP12
namespace Go.Proofs.YtiafmpcmmohdkaaGreat
open Go.Fw
set_option linter.unusedVariables false
set_option linter.unusedSimpArgs false
set_option maxHeartbeats 4000000
set_option maxRecDepth 8000
theorem impl_add (f : DFS) (d i : Int) (s : Str) (hs : SmF f) (hf : IsFS f) (hd : hasI f d = true) (hl : s.length ≤ 1048576) : Snd Tryz.prog 88 [wFS f, .int .i64 d, .str s, .int .i64 i] (.int .i64 (addF f d s i).2) [wFS (addF f d s i).1, .unk, .unk, .unk] := Runs.snd (M := M) (c := ⟨4, [8, 10, 13, 19, 27], [], []⟩) tok ks mixed Tryz.func88 (p := [0]) (by kernel_rfl) (by rfl) (by rfl) <| by
 have hdl := hasI_lt hd
 have c1 := impl_IsEntryName s hl
 rw [nameOk_eq] at c1
 unfold addF
 by_cases h1 : nameOK s = true
 ·rw [if_neg (by simp [h1])]
  by_cases h2 : 0 ≤ i ∧ i < 20
  ·rw [if_pos h2]
   have hn12 := nameOK_len h1
   have c2 := fun a b c => impl_find a b c f d s hf ⟨hdl.1, hdl.2.1⟩
   have c3 := impl_record ⟨s, i⟩ (by simp only; omega) (by simp only; omega)
   simp only [cEntry] at c3
   have hrl : (recordOf ⟨s, i⟩).length = 16 := recordOf_len hn12
   have hsz := (hasI_ok hf hd).size
   have c4 := impl_write f d (inodeAt f d).size (recordOf ⟨s, i⟩) hs hf hd (by omega) (by omega)
   generalize writeF f d (inodeAt f d).size (recordOf ⟨s, i⟩) = w at *
   generalize recordOf ⟨s, i⟩ = r at *
   generalize findE (entriesI f d) s = e at *
   obtain ⟨g, v⟩ := w
   obtain ⟨x, y⟩ := e
   obtain ⟨k, rfl⟩ := Int.eq_ofNat_of_zero_le hdl.1
   have hkl : k < f.inodes.length := by rw [hf.ni]; omega
   rw [inodeAt_nat hkl] at c4
   cases y with
   | true =>
    (try simp -implicitDefEqProofs (disch := first | exact dd | fail) [Tryz.f88, h1, h2.1, h2.2]); (repeat' ((with_reducible first | (refine Br.out ?_ ?_ <;> intro h <;> (try (have h0 := h; simp only [bH] at h))) | refine AC_snd (c1) ?_ | refine AC_snd (c2 _ _ _) ?_ | fail) <;> (try simp -implicitDefEqProofs (disch := first | exact dd | fail) [Tryz.f88, h1, h2.1, h2.2])))
   | false =>
    (try simp -implicitDefEqProofs (disch := first | exact dd | fail) [Tryz.f88, h1, h2.1, h2.2, hkl, cInode]); (repeat' ((with_reducible first | (refine Br.out ?_ ?_ <;> intro h <;> (try (have h0 := h; simp only [bH] at h))) | refine AC_snd (c1) ?_ | refine AC_snd (c2 _ _ _) ?_ | refine AC_snd (c3) ?_ | refine AC_snd (c4) ?_ | fail) <;> (try simp -implicitDefEqProofs (disch := first | exact dd | fail) [Tryz.f88, h1, h2.1, h2.2, hkl, cInode])))
  ·rw [if_neg h2]
   (try simp -implicitDefEqProofs (disch := first | exact dd | fail) [Tryz.f88, h1]); (repeat' ((with_reducible first | (refine Br.out ?_ ?_ <;> intro h <;> (try (have h0 := h; simp only [bH] at h))) | refine AC_snd (c1) ?_ | fail) <;> (try simp -implicitDefEqProofs (disch := first | exact dd | fail) [Tryz.f88, h1])))
   all_goals first | (exfalso; omega)
 ·have h1' : nameOK s = false := by simpa using h1
  rw [if_pos h1']
  (try simp -implicitDefEqProofs (disch := first | exact dd | fail) [Tryz.f88, h1']); (repeat' ((with_reducible first | (refine Br.out ?_ ?_ <;> intro h <;> (try (have h0 := h; simp only [bH] at h))) | refine AC_snd (c1) ?_ | fail) <;> (try simp -implicitDefEqProofs (disch := first | exact dd | fail) [Tryz.f88, h1'])))
theorem spec_l10Add (n1 n2 n3 : Option Bool) (f : DFS) (d i : Int) (s : Str) (hs : SmF f) (hf : IsFS f) (hd : hasI f d = true) (hl : s.length ≤ 1048576) : Snd Tryz.prog 83 [fFS n1 n2 n3 f, .int .i64 d, .str s, .int .i64 i] (.tup [rFS (if (addF f d s i).2 = 0 then (addF f d s i).1 else f), .int .i64 (addF f d s i).2]) [.unk, .unk, .unk, .unk] := Runs.snd (M := M) (c := ⟨4, [4, 8, 9, 11, 19, 25, 31], [], []⟩) tok ks mixed Tryz.func83 (p := []) (by kernel_rfl) (by rfl) (by rfl) <| by
 have hdl := hasI_lt hd
 have c1 := spec_IsEntryName s hl
 rw [nameOk_eq] at c1
 have c2 := fun a b c => spec_l10Find a b c f d s hf ⟨hdl.1, hdl.2.1⟩
 have c5 := fun a b c => spec_l08Copy a b c f hs
 obtain ⟨A, hA⟩ : ∃ A, A = addF f d s i := ⟨_, rfl⟩
 rw [← hA]
 unfold addF at hA
 by_cases h1 : nameOK s = true
 ·rw [if_neg (by simp [h1])] at hA
  by_cases h2 : 0 ≤ i ∧ i < 20
  ·rw [if_pos h2] at hA
   have hn12 := nameOK_len h1
   have c3 := spec_l10Record ⟨s, i⟩ (by simp only; omega) (by simp only; omega)
   simp only [cEntry] at c3
   have hrl : (recordOf ⟨s, i⟩).length = 16 := recordOf_len hn12
   have hsz := (hasI_ok hf hd).size
   have c4 := fun a b c => spec_l09Write a b c f d (inodeAt f d).size (recordOf ⟨s, i⟩) hs hf hd (by omega) (by omega)
   generalize writeF f d (inodeAt f d).size (recordOf ⟨s, i⟩) = w at *
   generalize recordOf ⟨s, i⟩ = r at *
   generalize findE (entriesI f d) s = e at *
   obtain ⟨g, v⟩ := w
   obtain ⟨x, y⟩ := e
   have h3 : (0 : Int) ≤ i := h2.1
   have h4 : i ≤ 19 := by omega
   obtain ⟨k, rfl⟩ := Int.eq_ofNat_of_zero_le hdl.1
   have hkl : k < f.inodes.length := by rw [hf.ni]; omega
   rw [inodeAt_nat hkl] at c4
   cases y with
   | true =>
    rw [if_pos rfl] at hA
    subst hA
    (try simp -implicitDefEqProofs (disch := first | exact dd | fail) [Tryz.f83, h1, h3, h4]); (repeat' ((with_reducible first | (refine Br.out ?_ ?_ <;> intro h <;> (try (have h0 := h; simp only [bH] at h))) | refine AC_snd (c1) ?_ | refine AC_snd (c2 _ _ _) ?_ | refine AC_snd (spec_l01In _ _ _) ?_ | refine AC_snd (c5 _ _ _) ?_ | fail) <;> (try simp -implicitDefEqProofs (disch := first | exact dd | fail) [Tryz.f83, h1, h3, h4])))
   | false =>
    rw [if_neg (by simp)] at hA
    subst hA
    simp only at c4 ⊢
    generalize (if v = 0 then g else f) = g2 at *
    (try simp -implicitDefEqProofs (disch := first | exact dd | fail) [Tryz.f83, h1, h3, h4, hkl, cInode]); (repeat' ((with_reducible first | (refine Br.out ?_ ?_ <;> intro h <;> (try (have h0 := h; simp only [bH] at h))) | refine AC_snd (c1) ?_ | refine AC_snd (c2 _ _ _) ?_ | refine AC_snd (spec_l01In _ _ _) ?_ | refine AC_snd (c3) ?_ | refine AC_snd (c4 _ _ _) ?_ | fail) <;> (try simp -implicitDefEqProofs (disch := first | exact dd | fail) [Tryz.f83, h1, h3, h4, hkl, cInode])))
  ·rw [if_neg h2] at hA
   subst hA
   (try simp -implicitDefEqProofs (disch := first | exact dd | fail) [Tryz.f83, h1]); (repeat' ((with_reducible first | (refine Br.out ?_ ?_ <;> intro h <;> (try (have h0 := h; simp only [bH] at h))) | refine AC_snd (c1) ?_ | refine AC_snd (c2 _ _ _) ?_ | refine AC_snd (spec_l01In _ _ _) ?_ | refine AC_snd (c5 _ _ _) ?_ | fail) <;> (try simp -implicitDefEqProofs (disch := first | exact dd | fail) [Tryz.f83, h1])))
   all_goals first | (exfalso; omega)
 ·have h1' : nameOK s = false := by simpa using h1
  rw [if_pos h1'] at hA
  subst hA
  (try simp -implicitDefEqProofs (disch := first | exact dd | fail) [Tryz.f83, h1']); (repeat' ((with_reducible first | (refine Br.out ?_ ?_ <;> intro h <;> (try (have h0 := h; simp only [bH] at h))) | refine AC_snd (c1) ?_ | refine AC_snd (c2 _ _ _) ?_ | refine AC_snd (c5 _ _ _) ?_ | fail) <;> (try simp -implicitDefEqProofs (disch := first | exact dd | fail) [Tryz.f83, h1'])))
structure RI (f : DFS) (d : Int) (s : Str) (j : Nat) (t : Str) (b : Bool) : Prop where
 txt : rmT f d s = t ++ recT (if b = true then (entriesI f d).drop j else rmE ((entriesI f d).drop j) s)
 fnd : (findE (entriesI f d) s).2 = (b || (findE ((entriesI f d).drop j) s).2)
theorem RI.start {f : DFS} {d : Int} {s : Str} : RI f d s 0 [] false := ⟨by simp [rmT], by simp⟩
theorem RI.hit {f : DFS} {d : Int} {s : Str} {j : Nat} {t : Str} (h : RI f d s j t false) (hj : j < (entriesI f d).length) (he : (entriesI f d)[j].name = s) : RI f d s (j + 1) t true := by
 have h1 := h.txt
 have h2 := h.fnd
 rw [List.drop_eq_getElem_cons hj] at h1 h2
 rw [findE, if_pos he] at h2
 refine ⟨?_, by rw [h2]; rfl⟩
 rw [h1]
 simp [rmE, he]
theorem RI.keep {f : DFS} {d : Int} {s : Str} {j : Nat} {t : Str} {b : Bool} (h : RI f d s j t b) (hj : j < (entriesI f d).length) (he : b = false → ¬ (entriesI f d)[j].name = s) : RI f d s (j + 1) (t ++ recordOf (entriesI f d)[j]) b := by
 have h1 := h.txt
 have h2 := h.fnd
 rw [List.drop_eq_getElem_cons hj] at h1 h2
 cases b with
 | true =>
  refine ⟨?_, by rw [h2]; rfl⟩
  rw [h1, if_pos rfl, if_pos rfl, recT_cons, List.append_assoc]
 | false =>
  have he := he rfl
  rw [findE, if_neg he] at h2
  refine ⟨?_, h2⟩
  rw [h1]
  simp only [Bool.false_eq_true, if_false, rmE, he, recT_cons, List.append_assoc]
theorem impl_remove (f : DFS) (d : Int) (s : Str) (hs : SmF f) (hf : IsFS f) (hd : hasI f d = true) : Snd Tryz.prog 97 [wFS f, .int .i64 d, .str s] (.int .i64 (removeF f d s).2) [wFS (removeF f d s).1, .unk, .unk] := Runs.snd (M := M) (c := ⟨3, [6, 7, 8, 10, 11, 14, 15, 16, 17, 27, 34, 40], [], [(1, [0, 1, 2, 6, 7, 8, 11, 14, 15, 16, 17, 27, 34, 40])]⟩) tok ks mixed Tryz.func97 (p := [0]) (by kernel_rfl) (by rfl) (by rfl) <| by
 have hdl := hasI_lt hd
 have hec := fun a b c => impl_entries a b c f d hf ⟨hdl.1, hdl.2.1⟩
 have hel := entriesI_le (i := d) hf ⟨hdl.1, hdl.2.1⟩
 have hin : ∀ e ∈ entriesI f d, _ := fun e he => entriesI_in he
 have hrl := rmT_len (s := s) hf ⟨hdl.1, hdl.2.1⟩
 obtain ⟨A, hA⟩ : ∃ A, A = removeF f d s := ⟨_, rfl⟩
 rw [← hA]
 unfold removeF at hA
 have hr0 := RI.start (f := f) (d := d) (s := s)
 have hrh := @RI.hit f d s
 have hrk := @RI.keep f d s
 have hre : ∀ t b, RI f d s (entriesI f d).length t b → rmT f d s = t ∧ (findE (entriesI f d) s).2 = b := fun t b h => by
  have h1 := h.txt
  have h2 := h.fnd
  rw [List.drop_length] at h1 h2
  cases b with
  | true => exact ⟨by simpa [recT] using h1, by simpa using h2⟩
  | false => exact ⟨by simpa [recT, rmE] using h1, by simpa [findE] using h2⟩
 have hrb : ∀ j t b, RI f d s j t b → t.length ≤ 256 := fun j t b h => by
  have h1 := congrArg List.length h.txt
  rw [List.length_append] at h1
  omega
 (try simp -implicitDefEqProofs (disch := first | exact dd | fail) [Tryz.f97]); (repeat' ((with_reducible first | (refine Br.out ?_ ?_ <;> intro h <;> (try (have h0 := h; simp only [bH] at h))) | refine AC_snd (hec _ _ _) ?_ | fail) <;> (try simp -implicitDefEqProofs (disch := first | exact dd | fail) [Tryz.f97])))
 refine AL_fors (σ := Str × Bool) 16 (entriesI f d).length (fun _ y => [(7, .str y.1), (8, .bool y.2)]) (fun _ _ => []) (fun j y => RI f d s j y.1 y.2) ([], false) rfl hr0 (fun j y n hlt hI ih => ?_) (fun y n hI => ?_)
 ·obtain ⟨t, b⟩ := y
  simp only at hI ⊢
  have hm := hin _ (List.getElem_mem hlt)
  have hn12 := nameOK_len hm.2.2
  have hc := impl_record (entriesI f d)[j] (by omega) (by omega)
  have hrl2 : (recordOf (entriesI f d)[j]).length = 16 := recordOf_len hn12
  have htl := hrb j t b hI
  have hcat : t.length + (recordOf (entriesI f d)[j]).length ≤ 1073741824 := by omega
  simp only [cEntry] at hc
  have hk := fun h => ih (t ++ recordOf (entriesI f d)[j], b) (hrk hI hlt h)
  have hh : ∀ (e : b = false) (h : (entriesI f d)[j].name = s), _ := fun e h => ih (t, true) (hrh (e ▸ hI) hlt h)
  generalize entriesI f d = E at *
  by_cases he : E[j].name = s
  ·cases b with
   | true =>
    have hj := hk (by simp)
    rw [he] at hc
    (try simp -implicitDefEqProofs (disch := first | exact dd | fail) [Tryz.f97, hlt, he, hcat, cEntry]); (repeat' ((with_reducible first | (refine Br.out ?_ ?_ <;> intro h <;> (try (have h0 := h; simp only [bH] at h))) | refine AC_snd (hc) ?_ | fail) <;> (try simp -implicitDefEqProofs (disch := first | exact dd | fail) [Tryz.f97, hlt, he, hcat, cEntry])))
    all_goals first | exact hj
   | false =>
    have hj := hh rfl he
    (try simp -implicitDefEqProofs (disch := first | exact dd | fail) [Tryz.f97, hlt, he, cEntry]); (repeat' ((with_reducible first | (refine Br.out ?_ ?_ <;> intro h <;> (try (have h0 := h; simp only [bH] at h))) | fail) <;> (try simp -implicitDefEqProofs (disch := first | exact dd | fail) [Tryz.f97, hlt, he, cEntry])))
    all_goals first | exact hj
  ·have hj := hk (fun _ => he)
   (try simp -implicitDefEqProofs (disch := first | exact dd | fail) [Tryz.f97, hlt, he, hcat, cEntry]); (repeat' ((with_reducible first | (refine Br.out ?_ ?_ <;> intro h <;> (try (have h0 := h; simp only [bH] at h))) | refine AC_snd (hc) ?_ | fail) <;> (try simp -implicitDefEqProofs (disch := first | exact dd | fail) [Tryz.f97, hlt, he, hcat, cEntry])))
   all_goals first | exact hj
 ·obtain ⟨t, b⟩ := y
  simp only at hI ⊢
  obtain ⟨h1, h2⟩ := hre t b hI
  rw [h1, h2] at hA
  rw [h1] at hrl
  cases b with
  | false =>
   rw [if_pos rfl] at hA
   subst hA
   (try simp -implicitDefEqProofs (disch := first | exact dd | fail) [Tryz.f97]); (repeat' ((with_reducible first | (refine Br.out ?_ ?_ <;> intro h <;> (try (have h0 := h; simp only [bH] at h))) | fail) <;> (try simp -implicitDefEqProofs (disch := first | exact dd | fail) [Tryz.f97])))
  | true =>
   rw [if_neg (by simp)] at hA
   have c1 := impl_write f d 0 t hs hf hd (by omega) (by decide)
   have hkp := writeF_keeps (f := f) (i := d) (a := 0) (s := t) ⟨hdl.1, by rw [hf.ni]; omega⟩
   by_cases hw : (writeF f d 0 t).2 = 0
   ·rw [if_pos hw] at hA
    have hg := hf.write hs hd hw
    have c2 := impl_resize (writeF f d 0 t).1 d t.length (SmF.of hg) hg (by rw [hkp.has]; exact hd) (by omega)
    rw [resizeF, if_neg (by omega), if_neg (by omega), Int.toNat_natCast] at c2
    rw [hw] at c1
    generalize (writeF f d 0 t).1 = g at *
    subst hA
    (try simp -implicitDefEqProofs (disch := first | exact dd | fail) [Tryz.f97]); (repeat' ((with_reducible first | (refine Br.out ?_ ?_ <;> intro h <;> (try (have h0 := h; simp only [bH] at h))) | refine AC_snd (c1) ?_ | refine AC_snd (c2) ?_ | fail) <;> (try simp -implicitDefEqProofs (disch := first | exact dd | fail) [Tryz.f97])))
   ·rw [if_neg hw] at hA
    subst hA
    (try simp -implicitDefEqProofs (disch := first | exact dd | fail) [Tryz.f97, hw]); (repeat' ((with_reducible first | (refine Br.out ?_ ?_ <;> intro h <;> (try (have h0 := h; simp only [bH] at h))) | refine AC_snd (c1) ?_ | fail) <;> (try simp -implicitDefEqProofs (disch := first | exact dd | fail) [Tryz.f97, hw])))
theorem spec_l10Remove (n1 n2 n3 : Option Bool) (f : DFS) (d : Int) (s : Str) (hs : SmF f) (hf : IsFS f) (hd : hasI f d = true) : Snd Tryz.prog 95 [fFS n1 n2 n3 f, .int .i64 d, .str s] (.tup [rFS (if (removeF f d s).2 = 0 then (removeF f d s).1 else f), .int .i64 (removeF f d s).2]) [.unk, .unk, .unk] := Runs.snd (M := M) (c := ⟨3, [3, 6, 7, 8, 9, 11, 12, 13, 16, 17, 18, 19, 29, 36, 47], [], [(1, [0, 1, 2, 3, 6, 7, 8, 9, 12, 13, 16, 17, 18, 19, 29, 36, 47])]⟩) tok ks mixed Tryz.func95 (p := []) (by kernel_rfl) (by rfl) (by rfl) <| by
 have hdl := hasI_lt hd
 have hec := fun a b c => spec_l10Entries a b c f d hf ⟨hdl.1, hdl.2.1⟩
 have hel := entriesI_le (i := d) hf ⟨hdl.1, hdl.2.1⟩
 have hin : ∀ e ∈ entriesI f d, _ := fun e he => entriesI_in he
 have hrl := rmT_len (s := s) hf ⟨hdl.1, hdl.2.1⟩
 obtain ⟨A, hA⟩ : ∃ A, A = removeF f d s := ⟨_, rfl⟩
 rw [← hA]
 unfold removeF at hA
 have hr0 := RI.start (f := f) (d := d) (s := s)
 have hrh := @RI.hit f d s
 have hrk := @RI.keep f d s
 have hre : ∀ t b, RI f d s (entriesI f d).length t b → rmT f d s = t ∧ (findE (entriesI f d) s).2 = b := fun t b h => by
  have h1 := h.txt
  have h2 := h.fnd
  rw [List.drop_length] at h1 h2
  cases b with
  | true => exact ⟨by simpa [recT] using h1, by simpa using h2⟩
  | false => exact ⟨by simpa [recT, rmE] using h1, by simpa [findE] using h2⟩
 have hrb : ∀ j t b, RI f d s j t b → t.length ≤ 256 := fun j t b h => by
  have h1 := congrArg List.length h.txt
  rw [List.length_append] at h1
  omega
 (try simp -implicitDefEqProofs (disch := first | exact dd | fail) [Tryz.f95]); (repeat' ((with_reducible first | (refine Br.out ?_ ?_ <;> intro h <;> (try (have h0 := h; simp only [bH] at h))) | refine AC_snd (hec _ _ _) ?_ | fail) <;> (try simp -implicitDefEqProofs (disch := first | exact dd | fail) [Tryz.f95])))
 refine AL_fors (σ := Str × Bool) 18 (entriesI f d).length (fun _ y => [(8, .str y.1), (9, .bool y.2)]) (fun _ _ => []) (fun j y => RI f d s j y.1 y.2) ([], false) rfl hr0 (fun j y n hlt hI ih => ?_) (fun y n hI => ?_)
 ·obtain ⟨t, b⟩ := y
  simp only at hI ⊢
  have hm := hin _ (List.getElem_mem hlt)
  have hn12 := nameOK_len hm.2.2
  have hc := spec_l10Record (entriesI f d)[j] (by omega) (by omega)
  have hrl2 : (recordOf (entriesI f d)[j]).length = 16 := recordOf_len hn12
  have htl := hrb j t b hI
  have hcat : t.length + (recordOf (entriesI f d)[j]).length ≤ 1073741824 := by omega
  simp only [cEntry] at hc
  have hk := fun h => ih (t ++ recordOf (entriesI f d)[j], b) (hrk hI hlt h)
  have hh : ∀ (e : b = false) (h : (entriesI f d)[j].name = s), _ := fun e h => ih (t, true) (hrh (e ▸ hI) hlt h)
  generalize entriesI f d = E at *
  by_cases he : E[j].name = s
  ·cases b with
   | true =>
    have hj := hk (by simp)
    rw [he] at hc
    (try simp -implicitDefEqProofs (disch := first | exact dd | fail) [Tryz.f95, hlt, he, hcat, cEntry]); (repeat' ((with_reducible first | (refine Br.out ?_ ?_ <;> intro h <;> (try (have h0 := h; simp only [bH] at h))) | refine AC_snd (hc) ?_ | fail) <;> (try simp -implicitDefEqProofs (disch := first | exact dd | fail) [Tryz.f95, hlt, he, hcat, cEntry])))
    all_goals first | exact hj
   | false =>
    have hj := hh rfl he
    (try simp -implicitDefEqProofs (disch := first | exact dd | fail) [Tryz.f95, hlt, he, cEntry]); (repeat' ((with_reducible first | (refine Br.out ?_ ?_ <;> intro h <;> (try (have h0 := h; simp only [bH] at h))) | fail) <;> (try simp -implicitDefEqProofs (disch := first | exact dd | fail) [Tryz.f95, hlt, he, cEntry])))
    all_goals first | exact hj
  ·have hj := hk (fun _ => he)
   (try simp -implicitDefEqProofs (disch := first | exact dd | fail) [Tryz.f95, hlt, he, hcat, cEntry]); (repeat' ((with_reducible first | (refine Br.out ?_ ?_ <;> intro h <;> (try (have h0 := h; simp only [bH] at h))) | refine AC_snd (hc) ?_ | fail) <;> (try simp -implicitDefEqProofs (disch := first | exact dd | fail) [Tryz.f95, hlt, he, hcat, cEntry])))
   all_goals first | exact hj
 ·obtain ⟨t, b⟩ := y
  simp only at hI ⊢
  obtain ⟨h1, h2⟩ := hre t b hI
  rw [h1, h2] at hA
  rw [h1] at hrl
  cases b with
  | false =>
   rw [if_pos rfl] at hA
   subst hA
   (try simp -implicitDefEqProofs (disch := first | exact dd | fail) [Tryz.f95]); (repeat' ((with_reducible first | (refine Br.out ?_ ?_ <;> intro h <;> (try (have h0 := h; simp only [bH] at h))) | refine AC_snd (spec_l08Copy _ _ _ f hs) ?_ | fail) <;> (try simp -implicitDefEqProofs (disch := first | exact dd | fail) [Tryz.f95])))
  | true =>
   rw [if_neg (by simp)] at hA
   have c1 := fun a b c => spec_l09Write a b c f d 0 t hs hf hd (by omega) (by decide)
   have hkp := writeF_keeps (f := f) (i := d) (a := 0) (s := t) ⟨hdl.1, by rw [hf.ni]; omega⟩
   by_cases hw : (writeF f d 0 t).2 = 0
   ·rw [if_pos hw] at hA
    have hg := hf.write hs hd hw
    have c2 := fun a b c => spec_l09Resize a b c (writeF f d 0 t).1 d t.length (SmF.of hg) hg (by rw [hkp.has]; exact hd) hrl
    rw [if_pos hw, hw] at c1
    generalize (writeF f d 0 t).1 = g at *
    subst hA
    (try simp -implicitDefEqProofs (disch := first | exact dd | fail) [Tryz.f95]); (repeat' ((with_reducible first | (refine Br.out ?_ ?_ <;> intro h <;> (try (have h0 := h; simp only [bH] at h))) | refine AC_snd (c1 _ _ _) ?_ | refine AC_snd (c2 _ _ _) ?_ | fail) <;> (try simp -implicitDefEqProofs (disch := first | exact dd | fail) [Tryz.f95])))
   ·rw [if_neg hw] at hA c1
    subst hA
    rw [if_neg hw]
    (try simp -implicitDefEqProofs (disch := first | exact dd | fail) [Tryz.f95, hw]); (repeat' ((with_reducible first | (refine Br.out ?_ ?_ <;> intro h <;> (try (have h0 := h; simp only [bH] at h))) | refine AC_snd (c1 _ _ _) ?_ | refine AC_snd (spec_l08Copy _ _ _ f hs) ?_ | fail) <;> (try simp -implicitDefEqProofs (disch := first | exact dd | fail) [Tryz.f95, hw])))
set_option maxHeartbeats 4000000
set_option maxRecDepth 8000
theorem impl_dirCode (n1 n2 n3 : Option Bool) (f : DFS) (i : Int) (hs : SmF f) : Snd Tryz.prog 84 [fFS n1 n2 n3 f, .int .i64 i] (.int .i64 (dirCode f i)) [.unk, .unk] := Runs.snd (M := M) (c := ⟨2, [2, 4, 5, 10], [], []⟩) tok ks mixed Tryz.func84 (p := []) (by kernel_rfl) (by rfl) (by rfl) <| by
 unfold dirCode
 by_cases hu : (isFS f && hasI f i) = true
 ·have hu2 := Bool.and_eq_true_iff.1 hu
  rw [if_pos hu]
  by_cases hd : isDirI f i = true
  ·(try simp -implicitDefEqProofs (disch := first | exact dd | fail) [Tryz.f84, hu, hd]); (repeat' ((with_reducible first | (refine Br.out ?_ ?_ <;> intro h <;> (try (have h0 := h; simp only [bH] at h))) | refine AC_snd (impl_inUse _ _ _ f _ hs) ?_ | refine AC_snd (impl_isDir _ _ _ f _ (tr_iff.1 hu2.1).ni) ?_ | fail) <;> (try simp -implicitDefEqProofs (disch := first | exact dd | fail) [Tryz.f84, hu, hd])))
  ·have hd' : isDirI f i = false := by simpa using hd
   (try simp -implicitDefEqProofs (disch := first | exact dd | fail) [Tryz.f84, hu, hd']); (repeat' ((with_reducible first | (refine Br.out ?_ ?_ <;> intro h <;> (try (have h0 := h; simp only [bH] at h))) | refine AC_snd (impl_inUse _ _ _ f _ hs) ?_ | refine AC_snd (impl_isDir _ _ _ f _ (tr_iff.1 hu2.1).ni) ?_ | fail) <;> (try simp -implicitDefEqProofs (disch := first | exact dd | fail) [Tryz.f84, hu, hd'])))
 ·have hu' : (isFS f && hasI f i) = false := by simpa using hu
  rw [if_neg hu]
  (try simp -implicitDefEqProofs (disch := first | exact dd | fail) [Tryz.f84, hu']); (repeat' ((with_reducible first | (refine Br.out ?_ ?_ <;> intro h <;> (try (have h0 := h; simp only [bH] at h))) | refine AC_snd (impl_inUse _ _ _ f _ hs) ?_ | fail) <;> (try simp -implicitDefEqProofs (disch := first | exact dd | fail) [Tryz.f84, hu'])))
noncomputable def addO (f : DFS) (d : Int) (s : Str) (i : Int) : DFS × Int := if dirCode f d = 0 then (if (addF f d s i).2 = 0 then (addF f d s i).1 else f, (addF f d s i).2) else (f, dirCode f d)
noncomputable def removeO (f : DFS) (d : Int) (s : Str) : DFS × Int := if dirCode f d = 0 then (if (removeF f d s).2 = 0 then (removeF f d s).1 else f, (removeF f d s).2) else (f, dirCode f d)
theorem impl_AddEntry1 (f : DFS) (d i : Int) (s : Str) (hs : SmF f) (hf : IsFS f) (hd : hasI f d = true) (hl : s.length ≤ 1048576) : Snd Tryz.prog 87 [wFS f, .fptr [.int .i64 d], .fptr [.str s], .fptr [.int .i64 i]] (.int .i64 (addF f d s i).2) [wFS (addF f d s i).1, .unk, .unk, .unk] := Runs.snd (M := M) (c := ⟨1, [1, 2, 3, 5], [], []⟩) tok ks mixed Tryz.func87 (p := [0]) (by kernel_rfl) (by rfl) (by rfl) <| by
 have hc := impl_add f d i s hs hf hd hl
 generalize addF f d s i = r at *
 obtain ⟨g, e⟩ := r
 (try simp -implicitDefEqProofs (disch := first | exact dd | fail) [Tryz.f87]); (repeat' ((with_reducible first | (refine Br.out ?_ ?_ <;> intro h <;> (try (have h0 := h; simp only [bH] at h))) | refine AC_snd (hc) ?_ | fail) <;> (try simp -implicitDefEqProofs (disch := first | exact dd | fail) [Tryz.f87])))
theorem impl_changed_AddEntry (n1 n2 n3 : Option Bool) (f : DFS) (d i : Int) (s : Str) (hs : SmF f) (hf : IsFS f) (hd : hasI f d = true) (hl : s.length ≤ 1048576) : Snd Tryz.prog 86 [fFS n1 n2 n3 f, .fn 87 [.fptr [.int .i64 d], .fptr [.str s], .fptr [.int .i64 i]]] (.tup [rFS (if (addF f d s i).2 = 0 then (addF f d s i).1 else f), .int .i64 (addF f d s i).2]) [.unk, .unk] := Runs.snd (M := M) (c := ⟨2, [2, 4, 5, 6, 7, 13], [], []⟩) tok ks mixed Tryz.func86 (p := []) (by kernel_rfl) (by rfl) (by rfl) <| by
 have hc := impl_AddEntry1 f d i s hs hf hd hl
 generalize addF f d s i = r at *
 obtain ⟨g, e⟩ := r
 by_cases he : e = 0
 ·subst he
  simp only [if_true]
  (try simp -implicitDefEqProofs (disch := first | exact dd | fail) [Tryz.f86]); (repeat' ((with_reducible first | (refine Br.out ?_ ?_ <;> intro h <;> (try (have h0 := h; simp only [bH] at h))) | refine AC_snd (impl_copyFS _ _ _ f hs) ?_ | refine AC_snd (hc) ?_ | fail) <;> (try simp -implicitDefEqProofs (disch := first | exact dd | fail) [Tryz.f86])))
 ·simp only [he, if_false]
  (try simp -implicitDefEqProofs (disch := first | exact dd | fail) [Tryz.f86, he]); (repeat' ((with_reducible first | (refine Br.out ?_ ?_ <;> intro h <;> (try (have h0 := h; simp only [bH] at h))) | refine AC_snd (impl_copyFS _ _ _ f hs) ?_ | refine AC_snd (hc) ?_ | fail) <;> (try simp -implicitDefEqProofs (disch := first | exact dd | fail) [Tryz.f86, he])))
theorem impl_AddEntry (n1 n2 n3 : Option Bool) (f : DFS) (d i : Int) (s : Str) (hs : SmF f) (hl : s.length ≤ 1048576) : Snd Tryz.prog 30 [fFS n1 n2 n3 f, .int .i64 d, .str s, .int .i64 i] (.tup [rFS (addO f d s i).1, .int .i64 (addO f d s i).2]) [.unk, .unk, .unk, .unk] := Runs.snd (M := M) (c := ⟨4, [4, 5, 6, 7, 8, 9, 10, 15], [], []⟩) tok ks mixed Tryz.func30 (p := []) (by kernel_rfl) (by rfl) (by rfl) <| by
 have c1 := fun a b c => impl_dirCode a b c f d hs
 by_cases h0 : dirCode f d = 0
 ·have hd := dir_code.1 h0
  have c2 := fun a b c => impl_changed_AddEntry a b c f d i s hs (tr_iff.1 hd.1) (isDir_use hd.2) hl
  rw [addO, if_pos h0]
  rw [h0] at c1
  generalize addF f d s i = r at *
  obtain ⟨g, e⟩ := r
  simp only at c2 ⊢
  generalize (if e = 0 then g else f) = g2 at *
  (try simp -implicitDefEqProofs (disch := first | exact dd | fail) [Tryz.f30]); (repeat' ((with_reducible first | (refine Br.out ?_ ?_ <;> intro h <;> (try (have h0 := h; simp only [bH] at h))) | refine AC_snd (c1 _ _ _) ?_ | refine AC_snd (c2 _ _ _) ?_ | fail) <;> (try simp -implicitDefEqProofs (disch := first | exact dd | fail) [Tryz.f30])))
 ·rw [addO, if_neg h0]
  generalize dirCode f d = e at *
  (try simp -implicitDefEqProofs (disch := first | exact dd | fail) [Tryz.f30, h0]); (repeat' ((with_reducible first | (refine Br.out ?_ ?_ <;> intro h <;> (try (have h0 := h; simp only [bH] at h))) | refine AC_snd (c1 _ _ _) ?_ | refine AC_snd (impl_copyFS _ _ _ f hs) ?_ | fail) <;> (try simp -implicitDefEqProofs (disch := first | exact dd | fail) [Tryz.f30, h0])))
theorem spec_AddEntry (n1 n2 n3 : Option Bool) (f : DFS) (d i : Int) (s : Str) (hs : SmF f) (hl : s.length ≤ 1048576) : Snd Tryz.prog 29 [fFS n1 n2 n3 f, .int .i64 d, .str s, .int .i64 i] (.tup [rFS (addO f d s i).1, .int .i64 (addO f d s i).2]) [.unk, .unk, .unk, .unk] := Runs.snd (M := M) (c := ⟨4, [4, 8, 9, 10, 15], [], []⟩) tok ks mixed Tryz.func29 (p := []) (by kernel_rfl) (by rfl) (by rfl) <| by
 have c1 := fun a b c => spec_l10Dir a b c f d hs
 by_cases h0 : dirCode f d = 0
 ·have hd := dir_code.1 h0
  have c2 := fun a b c => spec_l10Add a b c f d i s hs (tr_iff.1 hd.1) (isDir_use hd.2) hl
  rw [addO, if_pos h0]
  rw [h0] at c1
  generalize addF f d s i = r at *
  obtain ⟨g, e⟩ := r
  simp only at c2 ⊢
  generalize (if e = 0 then g else f) = g2 at *
  (try simp -implicitDefEqProofs (disch := first | exact dd | fail) [Tryz.f29]); (repeat' ((with_reducible first | (refine Br.out ?_ ?_ <;> intro h <;> (try (have h0 := h; simp only [bH] at h))) | refine AC_snd (c1 _ _ _) ?_ | refine AC_snd (c2 _ _ _) ?_ | fail) <;> (try simp -implicitDefEqProofs (disch := first | exact dd | fail) [Tryz.f29])))
 ·rw [addO, if_neg h0]
  generalize dirCode f d = e at *
  (try simp -implicitDefEqProofs (disch := first | exact dd | fail) [Tryz.f29, h0]); (repeat' ((with_reducible first | (refine Br.out ?_ ?_ <;> intro h <;> (try (have h0 := h; simp only [bH] at h))) | refine AC_snd (c1 _ _ _) ?_ | refine AC_snd (spec_l08Copy _ _ _ f hs) ?_ | fail) <;> (try simp -implicitDefEqProofs (disch := first | exact dd | fail) [Tryz.f29, h0])))
theorem impl_RemoveEntry1 (f : DFS) (d : Int) (s : Str) (hs : SmF f) (hf : IsFS f) (hd : hasI f d = true) : Snd Tryz.prog 96 [wFS f, .fptr [.int .i64 d], .fptr [.str s]] (.int .i64 (removeF f d s).2) [wFS (removeF f d s).1, .unk, .unk] := Runs.snd (M := M) (c := ⟨1, [1, 2, 4], [], []⟩) tok ks mixed Tryz.func96 (p := [0]) (by kernel_rfl) (by rfl) (by rfl) <| by
 have hc := impl_remove f d s hs hf hd
 generalize removeF f d s = r at *
 obtain ⟨g, e⟩ := r
 (try simp -implicitDefEqProofs (disch := first | exact dd | fail) [Tryz.f96]); (repeat' ((with_reducible first | (refine Br.out ?_ ?_ <;> intro h <;> (try (have h0 := h; simp only [bH] at h))) | refine AC_snd (hc) ?_ | fail) <;> (try simp -implicitDefEqProofs (disch := first | exact dd | fail) [Tryz.f96])))
theorem impl_changed_RemoveEntry (n1 n2 n3 : Option Bool) (f : DFS) (d : Int) (s : Str) (hs : SmF f) (hf : IsFS f) (hd : hasI f d = true) : Snd Tryz.prog 86 [fFS n1 n2 n3 f, .fn 96 [.fptr [.int .i64 d], .fptr [.str s]]] (.tup [rFS (if (removeF f d s).2 = 0 then (removeF f d s).1 else f), .int .i64 (removeF f d s).2]) [.unk, .unk] := Runs.snd (M := M) (c := ⟨2, [2, 4, 5, 6, 7, 13], [], []⟩) tok ks mixed Tryz.func86 (p := []) (by kernel_rfl) (by rfl) (by rfl) <| by
 have hc := impl_RemoveEntry1 f d s hs hf hd
 generalize removeF f d s = r at *
 obtain ⟨g, e⟩ := r
 by_cases he : e = 0
 ·subst he
  simp only [if_true]
  (try simp -implicitDefEqProofs (disch := first | exact dd | fail) [Tryz.f86]); (repeat' ((with_reducible first | (refine Br.out ?_ ?_ <;> intro h <;> (try (have h0 := h; simp only [bH] at h))) | refine AC_snd (impl_copyFS _ _ _ f hs) ?_ | refine AC_snd (hc) ?_ | fail) <;> (try simp -implicitDefEqProofs (disch := first | exact dd | fail) [Tryz.f86])))
 ·simp only [he, if_false]
  (try simp -implicitDefEqProofs (disch := first | exact dd | fail) [Tryz.f86, he]); (repeat' ((with_reducible first | (refine Br.out ?_ ?_ <;> intro h <;> (try (have h0 := h; simp only [bH] at h))) | refine AC_snd (impl_copyFS _ _ _ f hs) ?_ | refine AC_snd (hc) ?_ | fail) <;> (try simp -implicitDefEqProofs (disch := first | exact dd | fail) [Tryz.f86, he])))
theorem impl_RemoveEntry (n1 n2 n3 : Option Bool) (f : DFS) (d : Int) (s : Str) (hs : SmF f) : Snd Tryz.prog 34 [fFS n1 n2 n3 f, .int .i64 d, .str s] (.tup [rFS (removeO f d s).1, .int .i64 (removeO f d s).2]) [.unk, .unk, .unk] := Runs.snd (M := M) (c := ⟨3, [3, 4, 5, 6, 7, 8, 13], [], []⟩) tok ks mixed Tryz.func34 (p := []) (by kernel_rfl) (by rfl) (by rfl) <| by
 have c1 := fun a b c => impl_dirCode a b c f d hs
 by_cases h0 : dirCode f d = 0
 ·have hd := dir_code.1 h0
  have c2 := fun a b c => impl_changed_RemoveEntry a b c f d s hs (tr_iff.1 hd.1) (isDir_use hd.2)
  rw [removeO, if_pos h0]
  rw [h0] at c1
  generalize removeF f d s = r at *
  obtain ⟨g, e⟩ := r
  simp only at c2 ⊢
  generalize (if e = 0 then g else f) = g2 at *
  (try simp -implicitDefEqProofs (disch := first | exact dd | fail) [Tryz.f34]); (repeat' ((with_reducible first | (refine Br.out ?_ ?_ <;> intro h <;> (try (have h0 := h; simp only [bH] at h))) | refine AC_snd (c1 _ _ _) ?_ | refine AC_snd (c2 _ _ _) ?_ | fail) <;> (try simp -implicitDefEqProofs (disch := first | exact dd | fail) [Tryz.f34])))
 ·rw [removeO, if_neg h0]
  generalize dirCode f d = e at *
  (try simp -implicitDefEqProofs (disch := first | exact dd | fail) [Tryz.f34, h0]); (repeat' ((with_reducible first | (refine Br.out ?_ ?_ <;> intro h <;> (try (have h0 := h; simp only [bH] at h))) | refine AC_snd (c1 _ _ _) ?_ | refine AC_snd (impl_copyFS _ _ _ f hs) ?_ | fail) <;> (try simp -implicitDefEqProofs (disch := first | exact dd | fail) [Tryz.f34, h0])))
theorem spec_RemoveEntry (n1 n2 n3 : Option Bool) (f : DFS) (d : Int) (s : Str) (hs : SmF f) : Snd Tryz.prog 33 [fFS n1 n2 n3 f, .int .i64 d, .str s] (.tup [rFS (removeO f d s).1, .int .i64 (removeO f d s).2]) [.unk, .unk, .unk] := Runs.snd (M := M) (c := ⟨3, [3, 6, 7, 8, 13], [], []⟩) tok ks mixed Tryz.func33 (p := []) (by kernel_rfl) (by rfl) (by rfl) <| by
 have c1 := fun a b c => spec_l10Dir a b c f d hs
 by_cases h0 : dirCode f d = 0
 ·have hd := dir_code.1 h0
  have c2 := fun a b c => spec_l10Remove a b c f d s hs (tr_iff.1 hd.1) (isDir_use hd.2)
  rw [removeO, if_pos h0]
  rw [h0] at c1
  generalize removeF f d s = r at *
  obtain ⟨g, e⟩ := r
  simp only at c2 ⊢
  generalize (if e = 0 then g else f) = g2 at *
  (try simp -implicitDefEqProofs (disch := first | exact dd | fail) [Tryz.f33]); (repeat' ((with_reducible first | (refine Br.out ?_ ?_ <;> intro h <;> (try (have h0 := h; simp only [bH] at h))) | refine AC_snd (c1 _ _ _) ?_ | refine AC_snd (c2 _ _ _) ?_ | fail) <;> (try simp -implicitDefEqProofs (disch := first | exact dd | fail) [Tryz.f33])))
 ·rw [removeO, if_neg h0]
  generalize dirCode f d = e at *
  (try simp -implicitDefEqProofs (disch := first | exact dd | fail) [Tryz.f33, h0]); (repeat' ((with_reducible first | (refine Br.out ?_ ?_ <;> intro h <;> (try (have h0 := h; simp only [bH] at h))) | refine AC_snd (c1 _ _ _) ?_ | refine AC_snd (spec_l08Copy _ _ _ f hs) ?_ | fail) <;> (try simp -implicitDefEqProofs (disch := first | exact dd | fail) [Tryz.f33, h0])))
theorem addO_fs {f : DFS} {d i : Int} {s : Str} : (addO f d s i).1 = f ∨ IsFS (addO f d s i).1 := by
 unfold addO
 split
 ·rename_i h0
  have hd := dir_code.1 h0
  simp only
  split
  ·rename_i h
   exact .inr ((tr_iff.1 hd.1).add (SmF.of (tr_iff.1 hd.1)) (isDir_use hd.2) h)
  ·exact .inl rfl
 ·exact .inl rfl
theorem removeO_fs {f : DFS} {d : Int} {s : Str} : (removeO f d s).1 = f ∨ IsFS (removeO f d s).1 := by
 unfold removeO
 split
 ·rename_i h0
  have hd := dir_code.1 h0
  simp only
  split
  ·rename_i h
   exact .inr ((tr_iff.1 hd.1).remove (isDir_use hd.2) h)
  ·exact .inl rfl
 ·exact .inl rfl
end Go.Proofs.YtiafmpcmmohdkaaGreat
