import Derived.Test.YtiafmpcmmohdkaaGreatP10
import Derived.Test.YtiafmpcmmohdkaaGreatP12
import Derived.Test.YtiafmpcmmohdkaaGreatMC
namespace Go.Proofs.YtiafmpcmmohdkaaGreat
open Go.Fw
set_option linter.unusedVariables false
set_option linter.unusedSimpArgs false
set_option maxHeartbeats 4000000
set_option maxRecDepth 8000
noncomputable def mayRemove (c : DCred) (u m w : Int) : Bool := isCred c && (decide (IsMode m) && (decide (iAnd m 512 = 0) || (decide (c.uid = 0) || (decide (c.uid = u) || decide (c.uid = w)))))
theorem hasI_kk {f : DFS} {k : Nat} (h : k < 20) : hasI f k = !decide ((inodeAt f k).kind = 0) := by
 unfold hasI
 by_cases hk : (inodeAt f k).kind = 0
 ·simp [hk]
 ·simp [hk]; omega
theorem impl_MayRemove (n1 : Option Bool) (c : DCred) (u m w : Int) (hl : c.groups.length ≤ 1048576) : Snd Tryz.prog 137 [fCred n1 c, .int .i64 u, .int .i64 m, .int .i64 w] (.bool (mayRemove c u m w)) [.unk, .unk, .unk, .unk] := Runs.snd (M := M) (c := ⟨4, [4, 8, 16], [], []⟩) tok ks mixed Tryz.func137 (p := []) (by kernel_rfl) (by rfl) (by rfl) <| by
 unfold mayRemove
 (try simp -implicitDefEqProofs (disch := first | exact dd | fail) [Tryz.f137]); (repeat' ((with_reducible first | (refine Br.out ?_ ?_ <;> intro h <;> (try (have h0 := h; simp only [bH] at h))) | refine AC_snd (impl_IsCred _ c hl) ?_ | refine AC_snd (impl_isMode _) ?_ | fail) <;> (try simp -implicitDefEqProofs (disch := first | exact dd | fail) [Tryz.f137])))
 all_goals (simp [*]; try grind)
theorem spec_MayRemove (n1 : Option Bool) (c : DCred) (u m w : Int) (hl : c.groups.length ≤ 1048576) : Snd Tryz.prog 136 [fCred n1 c, .int .i64 u, .int .i64 m, .int .i64 w] (.bool (mayRemove c u m w)) [.unk, .unk, .unk, .unk] := Runs.snd (M := M) (c := ⟨4, [4, 8, 16], [], []⟩) tok ks mixed Tryz.func136 (p := []) (by kernel_rfl) (by rfl) (by rfl) <| by
 unfold mayRemove
 (try simp -implicitDefEqProofs (disch := first | exact dd | fail) [Tryz.f136]); (repeat' ((with_reducible first | (refine Br.out ?_ ?_ <;> intro h <;> (try (have h0 := h; simp only [bH] at h))) | refine AC_snd (spec_IsCred _ c hl) ?_ | refine AC_snd (spec_l06Mode _) ?_ | fail) <;> (try simp -implicitDefEqProofs (disch := first | exact dd | fail) [Tryz.f136])))
 all_goals (simp [*]; try grind)
noncomputable def checkP (f : DFS) (c : DCred) (d i : Int) : Int := if mayI f c d 3 = false then 2 else if mayRemove c (inodeAt f d).uid (inodeAt f d).mode (inodeAt f i).uid = false then 12 else 0
noncomputable def removalP (f : DFS) (c : DCred) (d : Int) (s : Str) (e : DInode → Int) : Int × Int :=
 if (findE (entriesI f d) s).2 = false ∨ hasI f (findE (entriesI f d) s).1 = false then (0, 3) else if e (inodeAt f (findE (entriesI f d) s).1) ≠ 0 then (0, e (inodeAt f (findE (entriesI f d) s).1)) else if checkP f c d (findE (entriesI f d) s).1 ≠ 0 then (0, checkP f c d (findE (entriesI f d) s).1) else ((findE (entriesI f d) s).1, 0)
theorem impl_RemovableBy1 (n1 n2 n3 : Option Bool) (x : DInode) : Snd Tryz.prog 81 [fInode n1 n2 n3 x] (.int .i64 0) [.unk] := Runs.snd (M := M) (c := ⟨1, [2], [], []⟩) tok ks mixed Tryz.func81 (p := []) (by kernel_rfl) (by rfl) (by rfl) <| by
 (try simp -implicitDefEqProofs (disch := first | exact dd | fail) [Tryz.f81]); (repeat' ((with_reducible first | (refine Br.out ?_ ?_ <;> intro h <;> (try (have h0 := h; simp only [bH] at h))) | fail) <;> (try simp -implicitDefEqProofs (disch := first | exact dd | fail) [Tryz.f81])))
theorem impl_removal0 (n1 n2 n3 n4 : Option Bool) (f : DFS) (c : DCred) (d : Int) (s : Str) (hf : IsFS f) (hc : c.groups.length ≤ 1048576) (hd : 0 ≤ d ∧ d < 20) : Snd Tryz.prog 80 [pFS n1 n2 n3 f, fCred n4 c, .int .i64 d, .str s, .fn 81 []] (.tup [.int .i64 (removalP f c d s (fun _ => 0)).1, .int .i64 (removalP f c d s (fun _ => 0)).2]) [.unk, .unk, .unk, .unk, .unk] := Runs.snd (M := M) (c := ⟨5, [6, 10, 11, 12, 13, 14, 29, 40, 46, 73], [], []⟩) tok ks mixed Tryz.func80 (p := []) (by kernel_rfl) (by rfl) (by rfl) <| by
 have hn := hf.ni
 have hs := SmF.of hf
 have c1 := fun a b e => impl_find a b e f d s hf hd
 have c2 := fun a b e i => impl_has a b e f i hn
 have c3 := fun a b e g => impl_may a b e g f c d 3 hn hs hc
 have c4 := fun a u m w => impl_MayRemove a c u m w hc
 have hin : (findE (entriesI f d) s).2 = true → _ := findE_in
 obtain ⟨A, hA⟩ : ∃ A, A = removalP f c d s (fun _ => 0) := ⟨_, rfl⟩
 rw [← hA]
 unfold removalP checkP at hA
 generalize findE (entriesI f d) s = r at *
 obtain ⟨x, y⟩ := r
 obtain ⟨k, rfl⟩ := Int.eq_ofNat_of_zero_le hd.1
 have hkl : k < f.inodes.length := by omega
 rw [inodeAt_nat hkl] at hA
 cases y with
 | false =>
  rw [if_pos (.inl rfl)] at hA
  subst hA
  (try simp -implicitDefEqProofs (disch := first | exact dd | fail) [Tryz.f80]); (repeat' ((with_reducible first | (refine Br.out ?_ ?_ <;> intro h <;> (try (have h0 := h; simp only [bH] at h))) | refine AC_snd (c1 _ _ _) ?_ | fail) <;> (try simp -implicitDefEqProofs (disch := first | exact dd | fail) [Tryz.f80])))
 | true =>
  by_cases h1 : hasI f x = true
  ·rw [if_neg (by simp [h1]), if_neg (by simp)] at hA
   have hx := hin rfl
   obtain ⟨i, rfl⟩ := Int.eq_ofNat_of_zero_le hx.1
   have hil : i < f.inodes.length := by simp only at hx; omega
   rw [inodeAt_nat hil] at hA
   by_cases h2 : mayI f c k 3 = true
   ·rw [h2] at hA
    generalize hm : mayRemove c f.inodes[k].uid f.inodes[k].mode f.inodes[i].uid = b at hA
    have c4'' := fun a => c4 a f.inodes[k].uid f.inodes[k].mode f.inodes[i].uid
    rw [hm] at c4''
    cases b with
    | true =>
     simp at hA
     subst hA
     (try simp -implicitDefEqProofs (disch := first | exact dd | fail) [Tryz.f80, h1, h2, hkl, hil, cInode]); (repeat' ((with_reducible first | (refine Br.out ?_ ?_ <;> intro h <;> (try (have h0 := h; simp only [bH] at h))) | refine AC_snd (c1 _ _ _) ?_ | refine AC_snd (c2 _ _ _ _) ?_ | refine AC_snd (impl_RemovableBy1 _ _ _ f.inodes[i]) ?_ | refine AC_snd (c3 _ _ _ _) ?_ | refine AC_snd (c4'' _) ?_ | fail) <;> (try simp -implicitDefEqProofs (disch := first | exact dd | fail) [Tryz.f80, h1, h2, hkl, hil, cInode])))
    | false =>
     simp at hA
     subst hA
     (try simp -implicitDefEqProofs (disch := first | exact dd | fail) [Tryz.f80, h1, h2, hkl, hil, cInode]); (repeat' ((with_reducible first | (refine Br.out ?_ ?_ <;> intro h <;> (try (have h0 := h; simp only [bH] at h))) | refine AC_snd (c1 _ _ _) ?_ | refine AC_snd (c2 _ _ _ _) ?_ | refine AC_snd (impl_RemovableBy1 _ _ _ f.inodes[i]) ?_ | refine AC_snd (c3 _ _ _ _) ?_ | refine AC_snd (c4'' _) ?_ | fail) <;> (try simp -implicitDefEqProofs (disch := first | exact dd | fail) [Tryz.f80, h1, h2, hkl, hil, cInode])))
   ·have h2' : mayI f c k 3 = false := by simpa using h2
    rw [h2'] at hA
    simp at hA
    subst hA
    (try simp -implicitDefEqProofs (disch := first | exact dd | fail) [Tryz.f80, h1, h2', hkl, hil, cInode]); (repeat' ((with_reducible first | (refine Br.out ?_ ?_ <;> intro h <;> (try (have h0 := h; simp only [bH] at h))) | refine AC_snd (c1 _ _ _) ?_ | refine AC_snd (c2 _ _ _ _) ?_ | refine AC_snd (impl_RemovableBy1 _ _ _ f.inodes[i]) ?_ | refine AC_snd (c3 _ _ _ _) ?_ | fail) <;> (try simp -implicitDefEqProofs (disch := first | exact dd | fail) [Tryz.f80, h1, h2', hkl, hil, cInode])))
  ·have h1' : hasI f x = false := by simpa using h1
   rw [if_pos (.inr h1')] at hA
   subst hA
   (try simp -implicitDefEqProofs (disch := first | exact dd | fail) [Tryz.f80, h1']); (repeat' ((with_reducible first | (refine Br.out ?_ ?_ <;> intro h <;> (try (have h0 := h; simp only [bH] at h))) | refine AC_snd (c1 _ _ _) ?_ | refine AC_snd (c2 _ _ _ _) ?_ | fail) <;> (try simp -implicitDefEqProofs (disch := first | exact dd | fail) [Tryz.f80, h1'])))
theorem spec_l13Check (n1 n2 n3 n4 : Option Bool) (f : DFS) (c : DCred) (d i : Int) (hf : IsFS f) (hc : c.groups.length ≤ 1048576) (hd : hasI f d = true) (hi : 0 ≤ i ∧ i < 20) : Snd Tryz.prog 79 [fFS n1 n2 n3 f, fCred n4 c, .int .i64 d, .int .i64 i] (.int .i64 (checkP f c d i)) [.unk, .unk, .unk, .unk] := Runs.snd (M := M) (c := ⟨4, [4, 5, 8, 9, 15, 21], [], []⟩) tok ks mixed Tryz.func79 (p := []) (by kernel_rfl) (by rfl) (by rfl) <| by
 have hn := hf.ni
 have hs := SmF.of hf
 have hdl := hasI_lt hd
 have c3 := fun a b e g => spec_l11May a b e g f c d 3 hn hd hs hc
 have c4 := fun a u m w => spec_MayRemove a c u m w hc
 unfold checkP
 obtain ⟨k, rfl⟩ := Int.eq_ofNat_of_zero_le hdl.1
 have hkl : k < f.inodes.length := by omega
 obtain ⟨j, rfl⟩ := Int.eq_ofNat_of_zero_le hi.1
 have hjl : j < f.inodes.length := by omega
 rw [inodeAt_nat hkl, inodeAt_nat hjl]
 by_cases h2 : mayI f c k 3 = true
 ·rw [if_neg (by simp [h2])]
  (try simp -implicitDefEqProofs (disch := first | exact dd | fail) [Tryz.f79, h2, hkl, hjl, cInode]); (repeat' ((with_reducible first | (refine Br.out ?_ ?_ <;> intro h <;> (try (have h0 := h; simp only [bH] at h))) | refine AC_snd (c3 _ _ _ _) ?_ | refine AC_snd (c4 _ f.inodes[k].uid f.inodes[k].mode f.inodes[j].uid) ?_ | fail) <;> (try simp -implicitDefEqProofs (disch := first | exact dd | fail) [Tryz.f79, h2, hkl, hjl, cInode])))
  all_goals simp [*]
 ·have h2' : mayI f c k 3 = false := by simpa using h2
  rw [if_pos h2']
  (try simp -implicitDefEqProofs (disch := first | exact dd | fail) [Tryz.f79, h2', hkl, hjl, cInode]); (repeat' ((with_reducible first | (refine Br.out ?_ ?_ <;> intro h <;> (try (have h0 := h; simp only [bH] at h))) | refine AC_snd (c3 _ _ _ _) ?_ | fail) <;> (try simp -implicitDefEqProofs (disch := first | exact dd | fail) [Tryz.f79, h2', hkl, hjl, cInode])))
noncomputable def removableO (f : DFS) (c : DCred) (d : Int) (s : Str) : Int := if (isCred c && (isFS f && isDirI f d)) = false then 1 else (removalP f c d s (fun _ => 0)).2
theorem impl_RemovableBy (n1 n2 n3 n4 : Option Bool) (f : DFS) (c : DCred) (d : Int) (s : Str) (hs : SmF f) (hc : c.groups.length ≤ 1048576) : Snd Tryz.prog 28 [fFS n1 n2 n3 f, fCred n4 c, .int .i64 d, .str s] (.int .i64 (removableO f c d s)) [.unk, .unk, .unk, .unk] := Runs.snd (M := M) (c := ⟨4, [4, 5, 8, 10, 23], [], []⟩) tok ks mixed Tryz.func28 (p := []) (by kernel_rfl) (by rfl) (by rfl) <| by
 unfold removableO
 by_cases h : (isCred c && (isFS f && isDirI f d)) = true
 ·rw [if_neg (by simp [h])]
  simp only [Bool.and_eq_true] at h
  have hf := tr_iff.1 h.2.1
  have c4 := fun a b e g => impl_removal0 a b e g f c d s hf hc (isDirI_lt h.2.2)
  generalize removalP f c d s (fun _ => 0) = r at *
  (try simp -implicitDefEqProofs (disch := first | exact dd | fail) [Tryz.f28, h.1, h.2.1, h.2.2]); (repeat' ((with_reducible first | (refine Br.out ?_ ?_ <;> intro h <;> (try (have h0 := h; simp only [bH] at h))) | refine AC_snd (impl_IsCred _ c hc) ?_ | refine AC_snd (impl_IsFS _ _ _ f hs) ?_ | refine AC_snd (impl_isDir _ _ _ f _ hf.ni) ?_ | refine AC_snd (c4 _ _ _ _) ?_ | fail) <;> (try simp -implicitDefEqProofs (disch := first | exact dd | fail) [Tryz.f28, h.1, h.2.1, h.2.2])))
 ·have h' : (isCred c && (isFS f && isDirI f d)) = false := by simpa using h
  rw [if_pos h']
  (try simp -implicitDefEqProofs (disch := first | exact dd | fail) [Tryz.f28]); (repeat' ((with_reducible first | (refine Br.out ?_ ?_ <;> intro h <;> (try (have h0 := h; simp only [bH] at h))) | refine AC_snd (impl_IsCred _ c hc) ?_ | refine AC_snd (impl_IsFS _ _ _ f hs) ?_ | refine AC_snd (impl_isDir _ _ _ f _ (tr_iff.1 (by assumption : isFS f = true)).ni) ?_ | fail) <;> (try simp -implicitDefEqProofs (disch := first | exact dd | fail) [Tryz.f28])))
  all_goals (exfalso; simp_all)
theorem spec_RemovableBy (n1 n2 n3 n4 : Option Bool) (f : DFS) (c : DCred) (d : Int) (s : Str) (hs : SmF f) (hc : c.groups.length ≤ 1048576) : Snd Tryz.prog 27 [fFS n1 n2 n3 f, fCred n4 c, .int .i64 d, .str s] (.int .i64 (removableO f c d s)) [.unk, .unk, .unk, .unk] := Runs.snd (M := M) (c := ⟨4, [4, 5, 8, 9, 10, 19, 37], [], []⟩) tok ks mixed Tryz.func27 (p := []) (by kernel_rfl) (by rfl) (by rfl) <| by
 unfold removableO
 have hdc := dir_code (f := f) (i := d)
 have c0 := fun a b e => spec_l10Dir a b e f d hs
 by_cases h : (isCred c && (isFS f && isDirI f d)) = true
 ·rw [if_neg (by simp [h])]
  simp only [Bool.and_eq_true] at h
  have hf := tr_iff.1 h.2.1
  have hn := hf.ni
  have hd0 := hdc.2 h.2
  have hu := isDir_use h.2.2
  rw [hd0] at c0
  have c1 := fun a b e => spec_l10Find a b e f d s hf (isDirI_lt h.2.2)
  have c2 := fun a b e g i hi => spec_l13Check a b e g f c d i hf hc hu hi
  have hin : (findE (entriesI f d) s).2 = true → _ := findE_in
  unfold removalP
  generalize findE (entriesI f d) s = r at *
  obtain ⟨x, y⟩ := r
  cases y with
  | false =>
   (try simp -implicitDefEqProofs (disch := first | exact dd | fail) [Tryz.f27, h.1]); (repeat' ((with_reducible first | (refine Br.out ?_ ?_ <;> intro h <;> (try (have h0 := h; simp only [bH] at h))) | refine AC_snd (c0 _ _ _) ?_ | refine AC_snd (spec_IsCred _ c hc) ?_ | refine AC_snd (c1 _ _ _) ?_ | fail) <;> (try simp -implicitDefEqProofs (disch := first | exact dd | fail) [Tryz.f27, h.1])))
  | true =>
   have hx := hin rfl
   obtain ⟨i, rfl⟩ := Int.eq_ofNat_of_zero_le hx.1
   have hi2 : i < 20 := by simp only at hx; omega
   have hil : i < f.inodes.length := by omega
   have hhk := hasI_kk (f := f) hi2
   rw [inodeAt_nat hil] at hhk
   have c2' := fun a b e g => c2 a b e g i ⟨by omega, by omega⟩
   generalize checkP f c d i = e at *
   by_cases hk : f.inodes[i].kind = 0
   ·(try simp -implicitDefEqProofs (disch := first | exact dd | fail) [Tryz.f27, h.1, hil, hk, hhk, cInode]); (repeat' ((with_reducible first | (refine Br.out ?_ ?_ <;> intro h <;> (try (have h0 := h; simp only [bH] at h))) | refine AC_snd (c0 _ _ _) ?_ | refine AC_snd (spec_IsCred _ c hc) ?_ | refine AC_snd (c1 _ _ _) ?_ | fail) <;> (try simp -implicitDefEqProofs (disch := first | exact dd | fail) [Tryz.f27, h.1, hil, hk, hhk, cInode])))
   ·by_cases he : e = 0
    ·subst he
     (try simp -implicitDefEqProofs (disch := first | exact dd | fail) [Tryz.f27, h.1, hil, hk, hhk, cInode]); (repeat' ((with_reducible first | (refine Br.out ?_ ?_ <;> intro h <;> (try (have h0 := h; simp only [bH] at h))) | refine AC_snd (c0 _ _ _) ?_ | refine AC_snd (spec_IsCred _ c hc) ?_ | refine AC_snd (c1 _ _ _) ?_ | refine AC_snd (c2' _ _ _ _) ?_ | fail) <;> (try simp -implicitDefEqProofs (disch := first | exact dd | fail) [Tryz.f27, h.1, hil, hk, hhk, cInode])))
    ·(try simp -implicitDefEqProofs (disch := first | exact dd | fail) [Tryz.f27, h.1, hil, hk, hhk, he, cInode]); (repeat' ((with_reducible first | (refine Br.out ?_ ?_ <;> intro h <;> (try (have h0 := h; simp only [bH] at h))) | refine AC_snd (c0 _ _ _) ?_ | refine AC_snd (spec_IsCred _ c hc) ?_ | refine AC_snd (c1 _ _ _) ?_ | refine AC_snd (c2' _ _ _ _) ?_ | fail) <;> (try simp -implicitDefEqProofs (disch := first | exact dd | fail) [Tryz.f27, h.1, hil, hk, hhk, he, cInode])))
 ·have h' : (isCred c && (isFS f && isDirI f d)) = false := by simpa using h
  rw [if_pos h']
  by_cases hd0 : dirCode f d = 0
  ·have hd := hdc.1 hd0
   rw [hd0] at c0
   have hcf : isCred c = false := by simpa [hd.1, hd.2] using h
   (try simp -implicitDefEqProofs (disch := first | exact dd | fail) [Tryz.f27, hcf]); (repeat' ((with_reducible first | (refine Br.out ?_ ?_ <;> intro h <;> (try (have h0 := h; simp only [bH] at h))) | refine AC_snd (c0 _ _ _) ?_ | refine AC_snd (spec_IsCred _ c hc) ?_ | fail) <;> (try simp -implicitDefEqProofs (disch := first | exact dd | fail) [Tryz.f27, hcf])))
  ·generalize dirCode f d = e at *
   (try simp -implicitDefEqProofs (disch := first | exact dd | fail) [Tryz.f27, hd0]); (repeat' ((with_reducible first | (refine Br.out ?_ ?_ <;> intro h <;> (try (have h0 := h; simp only [bH] at h))) | refine AC_snd (c0 _ _ _) ?_ | fail) <;> (try simp -implicitDefEqProofs (disch := first | exact dd | fail) [Tryz.f27, hd0])))
end Go.Proofs.YtiafmpcmmohdkaaGreat
