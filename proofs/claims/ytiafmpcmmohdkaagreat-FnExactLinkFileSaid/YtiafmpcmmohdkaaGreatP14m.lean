import Derived.Test.YtiafmpcmmohdkaaGreatP11p
import Derived.Test.YtiafmpcmmohdkaaGreatP15b
import Derived.Test.YtiafmpcmmohdkaaGreatP13c
namespace Go.Proofs.YtiafmpcmmohdkaaGreat
open Go.Fw
set_option linter.unusedVariables false
set_option linter.unusedSimpArgs false
set_option maxHeartbeats 4000000
set_option maxRecDepth 8000
theorem splitP_ok {p : Str} (h : (splitP p).2 = true) : ∀ x ∈ (splitP p).1, nameOK x = true := by
 unfold splitP at h ⊢
 split
 ·simp
 rename_i h1
 rw [if_neg h1] at h
 split
 ·rename_i h2
  rw [if_pos h2] at h
  split
  ·rename_i h3
   exact List.all_eq_true.1 h3.1
  ·simp
 ·simp
theorem resolveQ_ok {f : DFS} {c : DCred} {p : Str} (h : (resolveQ f c p).2.2 = 0) : isFS f = true ∧ isCred c = true ∧ isDirI f (resolveQ f c p).1 = true ∧ nameOK (resolveQ f c p).2.1 = true := by
 unfold resolveQ at h ⊢
 split
 ·rename_i h1; rw [if_pos h1] at h; cases h
 rename_i h1
 rw [if_neg h1] at h
 have h2 : isFS f = true ∧ isCred c = true := by simpa using h1
 split
 ·rename_i h3; rw [if_pos h3] at h; cases h
 rename_i h3
 rw [if_neg h3] at h
 refine ⟨h2.1, h2.2, ?_⟩
 unfold resolveW at h ⊢
 split
 ·rename_i h4; rw [if_pos h4] at h; exact absurd h h4
 rename_i h4
 rw [if_neg h4] at h
 split
 ·rename_i h5; rw [if_pos h5] at h; cases h
 rename_i h5
 rw [if_neg h5] at h
 split
 ·rename_i h6; rw [if_pos h6] at h; cases h
 have h7 : (splitP p).2 = true ∧ ¬ (splitP p).1.length = 0 := by simpa using h3
 have h8 : (splitP p).1.length - 1 < (splitP p).1.length := by omega
 refine ⟨by simpa using h5, splitP_ok h7.1 _ ?_⟩
 have h9 : (splitP p).1.getD ((splitP p).1.length - 1) [] = (splitP p).1[(splitP p).1.length - 1] := by simp [h8]
 simp only
 rw [h9]
 exact List.getElem_mem h8
def incF (f : DFS) (i : Int) : DFS := setN f i { inodeAt f i with links := (inodeAt f i).links + 1 }
theorem incFS {f : DFS} {i : Int} (hf : IsFS f) (hi : hasI f i = true) (hl : (inodeAt f i).links ≠ 1000) : IsFS (incF f i) := by
 have h0 := hasI_lt hi
 refine hf.setN (v := fun n => { n with links := n.links + 1 }) ⟨h0.1, h0.2.1⟩ (links_mod (l := fun l => l + 1)) fun _ => ?_
 have h := hasI_ok hf hi
 have h1 := h.links
 exact .inr ⟨h.kind, h.mode, h.uid, h.gid, by simp only; omega, h.size, h.tick, h.blocks, h.blk, h.acl, h.dflt, h.file⟩
theorem inc_mod {f : DFS} {i : Int} (hi : i.toNat < f.inodes.length) : incF f i = modI (modAt i.toNat (fun n => { n with links := n.links + 1 })) f := setN_mod (v := fun n => { n with links := n.links + 1 }) hi
theorem touch_modI {f : DFS} {i : Int} (hi : i.toNat < f.inodes.length) : touchF f i = modI (modAt i.toNat (fun n => { n with tick := f.tick })) f := setN_mod (v := fun n => { n with tick := f.tick }) hi
theorem modI_len {u : Nat → DInode → DInode} {f : DFS} : (modI u f).inodes.length = f.inodes.length := by simp [modI]
theorem link_comm {f : DFS} {i d : Int} {s : Str} (hi : i.toNat < f.inodes.length) (hd : 0 ≤ d ∧ d.toNat < f.inodes.length) : addF (touchF (incF f i) d) d s i = (touchF (incF (addF f d s i).1 i) d, (addF f d s i).2) := by
 have hk := addF_keeps (s := s) (i := i) hd
 have h1 : d.toNat < (incF f i).inodes.length := by rw [inc_mod hi, modI_len]; exact hd.2
 have hi2 : i.toNat < (addF f d s i).1.inodes.length := by rw [hk.nl]; exact hi
 have hd2 : d.toNat < (incF (addF f d s i).1 i).inodes.length := by rw [inc_mod hi2, modI_len, hk.nl]; exact hd.2
 rw [touch_modI h1, touch_modI hd2]
 have ht : (incF f i).tick = f.tick := rfl
 have ht2 : (incF (addF f d s i).1 i).tick = f.tick := hk.ft
 rw [ht, ht2, touch_mod.addF h1, inc_mod hi, (links_mod (l := fun l => l + 1)).addF hd.2, inc_mod hi2]
theorem incF_has {f : DFS} {i : Int} (hi : i.toNat < f.inodes.length) (hn : f.inodes.length = 20) (j : Int) : hasI (incF f i) j = hasI f j := by
 rw [inc_mod hi]
 exact (links_mod (l := fun l => l + 1)).has hn j
theorem impl_LinkFile1 (f : DFS) (i d : Nat) (s : Str) (hf : IsFS f) (hi : hasI f i = true) (hd : hasI f d = true) (hne : i ≠ d) (hl : (inodeAt f i).links ≠ 1000) (hs : s.length ≤ 1048576) : Snd Tryz.prog 113 [wFS f, .fptr [.int .i64 i], .fptr [.int .i64 d], .fptr [.str s]] (.int .i64 (addF f d s i).2) [wFS (touchF (incF (addF f d s i).1 i) d), .unk, .unk, .unk] := Runs.snd (M := M) (c := ⟨1, [1, 2, 3, 5], [], []⟩) tok ks mixed Tryz.func113 (p := [0]) (by kernel_rfl) (by rfl) (by rfl) <| by
 have hn := hf.ni
 have hil := hasI_lt hi
 have hdl := hasI_lt hd
 have hi1 : i < f.inodes.length := by omega
 have hd1 : d < f.inodes.length := by omega
 have hg1 := incFS hf hi hl
 have hg2 := hg1.touch (i := d) (by rw [incF_has (i := (i : Int)) (by simpa using hi1) hn]; exact hd)
 have hhd : hasI (touchF (incF f i) d) d = true := by rw [touch_has (by rw [hg1.ni]; omega), incF_has (i := (i : Int)) (by simpa using hi1) hn]; exact hd
 have c1 := impl_add (touchF (incF f i) d) d i s (SmF.of hg2) hg2 hhd hs
 rw [link_comm (by simpa using hi1) ⟨by omega, by simpa using hd1⟩] at c1
 have hlk := (hasI_ok hf hi).links
 rw [inodeAt_nat hi1] at hl hlk
 generalize touchF (incF (addF f d s i).1 i) d = g at *
 generalize (addF f d s i).2 = e at *
 have hm : ∀ (L : List DInode) (k : Nat) (n : DInode), (L.map cInode).set k (cInode n) = (L.set k n).map cInode := fun L k n => List.map_set.symm
 have hr1 := hm f.inodes i { f.inodes[i] with links := f.inodes[i].links + 1 }
 have hL : (f.inodes.set i { f.inodes[i] with links := f.inodes[i].links + 1 })[d]? = some f.inodes[d] := by rw [List.getElem?_set_ne hne, List.getElem?_eq_getElem hd1]
 have hLl : (f.inodes.set i { f.inodes[i] with links := f.inodes[i].links + 1 }).length = f.inodes.length := List.length_set
 have hfs : touchF (incF f i) d = ⟨f.tick, f.quotas, (f.inodes.set i { f.inodes[i] with links := f.inodes[i].links + 1 }).set d { f.inodes[d] with tick := f.tick }, f.data⟩ := by
  have e1 : inodeAt (incF f i) d = f.inodes[d] := by
   rw [incF, setN_at (by simpa using hi1), if_neg (by simp only [Int.toNat_natCast]; omega), inodeAt_nat hd1]
  unfold touchF
  rw [e1]
  unfold incF setN
  rw [inodeAt_nat hi1]
  simp
 rw [hfs] at c1
 clear hfs hg1 hg2 hhd
 generalize f.inodes.set i { f.inodes[i] with links := f.inodes[i].links + 1 } = L at *
 have hdL : d < L.length := by omega
 have hLd : L[d] = f.inodes[d] := by rw [List.getElem?_eq_getElem hdL] at hL; exact Option.some.inj hL
 have hr2 := hm L d { f.inodes[d] with tick := f.tick }
 have hL2 : (L.set d { f.inodes[d] with tick := f.tick }).length = f.inodes.length := by rw [List.length_set]; exact hLl
 generalize L.set d { f.inodes[d] with tick := f.tick } = L2 at *
 simp only [cInode] at hr1 hr2
 clear hm hL
 (try simp -implicitDefEqProofs (disch := first | exact dd | fail) [Tryz.f113, hi1, hdL, hLd, hLl, hL2, hr1, hr2, cInode]); (repeat' ((with_reducible first | (refine Br.out ?_ ?_ <;> intro h <;> (try (have h0 := h; simp only [bH] at h))) | refine AC_snd (c1) ?_ | fail) <;> (try simp -implicitDefEqProofs (disch := first | exact dd | fail) [Tryz.f113, hi1, hdL, hLd, hLl, hL2, hr1, hr2, cInode])))
theorem spec_l12Touch (f : DFS) (i : Nat) (hi : i < f.inodes.length) : Snd Tryz.prog 111 [rFS f, .int .i64 i] (rFS (touchF f i)) [.unk, .unk] := Runs.snd (M := M) (c := ⟨2, [2, 4, 5], [], []⟩) tok ks mixed Tryz.func111 (p := [0]) (by kernel_rfl) (by rfl) (by rfl) <| by
 have hr : (f.inodes.map cInode).set i (cInode { f.inodes[i] with tick := f.tick }) = (f.inodes.set i { f.inodes[i] with tick := f.tick }).map cInode := List.map_set.symm
 unfold touchF setN
 rw [inodeAt_nat hi]
 have hi2 : i < (f.inodes.map cInode).length := by simpa using hi
 simp only [cInode] at hr
 simp only [Int.toNat_natCast]
 obtain ⟨L2, hL2⟩ : ∃ L2, L2 = f.inodes.set i { f.inodes[i] with tick := f.tick } := ⟨_, rfl⟩
 have hLl2 : L2.length = f.inodes.length := by rw [hL2]; exact List.length_set
 rw [← hL2] at hr ⊢
 (try simp -implicitDefEqProofs (disch := first | exact dd | fail) [Tryz.f111, hi, hr, hLl2, cInode]); (repeat' ((with_reducible first | (refine Br.out ?_ ?_ <;> intro h <;> (try (have h0 := h; simp only [bH] at h))) | fail) <;> (try simp -implicitDefEqProofs (disch := first | exact dd | fail) [Tryz.f111, hi, hr, hLl2, cInode])))
noncomputable def linkO (f : DFS) (c : DCred) (p q : Str) : DFS × Int :=
 if (resolveF f c p).2 ≠ 0 then (f, (resolveF f c p).2) else if (resolveQ f c q).2.2 ≠ 0 then (f, (resolveQ f c q).2.2) else if isDirI f (resolveF f c p).1 = true then (f, 6)
 else if (findE (entriesI f (resolveQ f c q).1) (resolveQ f c q).2.1).2 = true then (f, 4) else if mayI f c (resolveQ f c q).1 3 = false then (f, 2) else if (inodeAt f (resolveF f c p).1).links = 1000 then (f, 15)
 else if (addF f (resolveQ f c q).1 (resolveQ f c q).2.1 (resolveF f c p).1).2 = 0 then (touchF (incF (addF f (resolveQ f c q).1 (resolveQ f c q).2.1 (resolveF f c p).1).1 (resolveF f c p).1) (resolveQ f c q).1, 0) else (f, (addF f (resolveQ f c q).1 (resolveQ f c q).2.1 (resolveF f c p).1).2)
theorem impl_changed_LinkFile (n1 n2 n3 : Option Bool) (f : DFS) (i d : Nat) (s : Str) (hf : IsFS f) (hi : hasI f i = true) (hd : hasI f d = true) (hne : i ≠ d) (hl : (inodeAt f i).links ≠ 1000) (hs : s.length ≤ 1048576) : Snd Tryz.prog 86 [fFS n1 n2 n3 f, .fn 113 [.fptr [.int .i64 i], .fptr [.int .i64 d], .fptr [.str s]]] (.tup [rFS (if (addF f d s i).2 = 0 then touchF (incF (addF f d s i).1 i) d else f), .int .i64 (addF f d s i).2]) [.unk, .unk] := Runs.snd (M := M) (c := ⟨2, [2, 4, 5, 6, 7, 13], [], []⟩) tok ks mixed Tryz.func86 (p := []) (by kernel_rfl) (by rfl) (by rfl) <| by
 have hc := impl_LinkFile1 f i d s hf hi hd hne hl hs
 have hsf := SmF.of hf
 generalize touchF (incF (addF f d s i).1 i) d = g at *
 generalize (addF f d s i).2 = e at *
 by_cases he : e = 0
 ·subst he
  simp only [if_true]
  (try simp -implicitDefEqProofs (disch := first | exact dd | fail) [Tryz.f86]); (repeat' ((with_reducible first | (refine Br.out ?_ ?_ <;> intro h <;> (try (have h0 := h; simp only [bH] at h))) | refine AC_snd (impl_copyFS _ _ _ f hsf) ?_ | refine AC_snd (hc) ?_ | fail) <;> (try simp -implicitDefEqProofs (disch := first | exact dd | fail) [Tryz.f86])))
 ·simp only [he, if_false]
  (try simp -implicitDefEqProofs (disch := first | exact dd | fail) [Tryz.f86, he]); (repeat' ((with_reducible first | (refine Br.out ?_ ?_ <;> intro h <;> (try (have h0 := h; simp only [bH] at h))) | refine AC_snd (impl_copyFS _ _ _ f hsf) ?_ | refine AC_snd (hc) ?_ | fail) <;> (try simp -implicitDefEqProofs (disch := first | exact dd | fail) [Tryz.f86, he])))
theorem impl_LinkFile (n1 n2 n3 n4 : Option Bool) (f : DFS) (c : DCred) (p q : Str) (hs : SmF f) (hc : c.groups.length ≤ 1048576) (hp : p.length ≤ 1048576) (hq : q.length ≤ 1048576) : Snd Tryz.prog 45 [fFS n1 n2 n3 f, fCred n4 c, .str p, .str q] (.tup [rFS (linkO f c p q).1, .int .i64 (linkO f c p q).2]) [.unk, .unk, .unk, .unk] := Runs.snd (M := M) (c := ⟨4, [4, 5, 8, 9, 10, 11, 12, 13, 15, 24, 37, 47, 52, 56, 63], [], []⟩) tok ks mixed Tryz.func45 (p := []) (by kernel_rfl) (by rfl) (by rfl) <| by
 have c1 := fun a b d e => impl_ResolvePath a b d e f c p hs hc hp
 have c2 := fun a b d e => impl_ResolveParent a b d e f c q hs hc hq
 have hok := resolveF_ok (f := f) (c := c) (p := p)
 have hok2 := resolveQ_ok (f := f) (c := c) (p := q)
 have cp := fun a b d => impl_copyFS a b d f hs
 obtain ⟨A, hA⟩ : ∃ A, A = linkO f c p q := ⟨_, rfl⟩
 rw [← hA]
 unfold linkO at hA
 generalize resolveF f c p = r at *
 generalize resolveQ f c q = w at *
 obtain ⟨x, e⟩ := r
 obtain ⟨y, s, e2⟩ := w
 by_cases he : e = 0
 rotate_left
 ·simp [he] at hA
  subst hA
  (try simp -implicitDefEqProofs (disch := first | exact dd | fail) [Tryz.f45, he]); (repeat' ((with_reducible first | (refine Br.out ?_ ?_ <;> intro h <;> (try (have h0 := h; simp only [bH] at h))) | refine AC_snd (c1 _ _ _ _) ?_ | refine AC_snd (cp _ _ _) ?_ | fail) <;> (try simp -implicitDefEqProofs (disch := first | exact dd | fail) [Tryz.f45, he])))
 subst he
 simp only [ne_eq, not_true_eq_false, if_false] at hA
 by_cases he2 : e2 = 0
 rotate_left
 ·simp [he2] at hA
  subst hA
  (try simp -implicitDefEqProofs (disch := first | exact dd | fail) [Tryz.f45, he2]); (repeat' ((with_reducible first | (refine Br.out ?_ ?_ <;> intro h <;> (try (have h0 := h; simp only [bH] at h))) | refine AC_snd (c1 _ _ _ _) ?_ | refine AC_snd (c2 _ _ _ _) ?_ | refine AC_snd (cp _ _ _) ?_ | fail) <;> (try simp -implicitDefEqProofs (disch := first | exact dd | fail) [Tryz.f45, he2])))
 subst he2
 simp only [ne_eq, not_true_eq_false, if_false] at hA
 have h1 := hok rfl
 have h2 := hok2 rfl
 simp only at h1 h2
 have hf := tr_iff.1 h1.1
 have hn := hf.ni
 have hdu := isDir_use h2.2.2.1
 have hil := hasI_lt h1.2.2
 have hdl := hasI_lt hdu
 have hnl := nameOK_len h2.2.2.2
 have c3 := fun a b d => impl_find a b d f y s hf ⟨hdl.1, hdl.2.1⟩
 have c4 := fun a b d i => impl_isDir a b d f i hn
 have c5 := fun a b d g => impl_may a b d g f c y 3 hn hs hc
 by_cases h3 : isDirI f x = true
 ·rw [if_pos h3] at hA
  subst hA
  (try simp -implicitDefEqProofs (disch := first | exact dd | fail) [Tryz.f45, h3]); (repeat' ((with_reducible first | (refine Br.out ?_ ?_ <;> intro h <;> (try (have h0 := h; simp only [bH] at h))) | refine AC_snd (c1 _ _ _ _) ?_ | refine AC_snd (c2 _ _ _ _) ?_ | refine AC_snd (c3 _ _ _) ?_ | refine AC_snd (c4 _ _ _ _) ?_ | refine AC_snd (cp _ _ _) ?_ | fail) <;> (try simp -implicitDefEqProofs (disch := first | exact dd | fail) [Tryz.f45, h3])))
 rw [if_neg h3] at hA
 have h3' : isDirI f x = false := by simpa using h3
 generalize hfe : findE (entriesI f y) s = fe at *
 obtain ⟨fx, fb⟩ := fe
 cases fb with
 | true =>
  rw [if_pos rfl] at hA
  subst hA
  (try simp -implicitDefEqProofs (disch := first | exact dd | fail) [Tryz.f45, h3']); (repeat' ((with_reducible first | (refine Br.out ?_ ?_ <;> intro h <;> (try (have h0 := h; simp only [bH] at h))) | refine AC_snd (c1 _ _ _ _) ?_ | refine AC_snd (c2 _ _ _ _) ?_ | refine AC_snd (c3 _ _ _) ?_ | refine AC_snd (c4 _ _ _ _) ?_ | refine AC_snd (cp _ _ _) ?_ | fail) <;> (try simp -implicitDefEqProofs (disch := first | exact dd | fail) [Tryz.f45, h3'])))
 | false =>
  rw [if_neg (by simp)] at hA
  by_cases h4 : mayI f c y 3 = true
  rotate_left
  ·have h4' : mayI f c y 3 = false := by simpa using h4
   rw [if_pos h4'] at hA
   subst hA
   (try simp -implicitDefEqProofs (disch := first | exact dd | fail) [Tryz.f45, h3', h4']); (repeat' ((with_reducible first | (refine Br.out ?_ ?_ <;> intro h <;> (try (have h0 := h; simp only [bH] at h))) | refine AC_snd (c1 _ _ _ _) ?_ | refine AC_snd (c2 _ _ _ _) ?_ | refine AC_snd (c3 _ _ _) ?_ | refine AC_snd (c4 _ _ _ _) ?_ | refine AC_snd (c5 _ _ _ _) ?_ | refine AC_snd (cp _ _ _) ?_ | fail) <;> (try simp -implicitDefEqProofs (disch := first | exact dd | fail) [Tryz.f45, h3', h4'])))
  rw [if_neg (by simp [h4])] at hA
  obtain ⟨i, rfl⟩ := Int.eq_ofNat_of_zero_le hil.1
  obtain ⟨d, rfl⟩ := Int.eq_ofNat_of_zero_le hdl.1
  have hi1 : i < f.inodes.length := by omega
  have hne : i ≠ d := by
   rintro rfl
   exact h3 h2.2.2.1
  by_cases h5 : (inodeAt f i).links = 1000
  ·rw [if_pos h5] at hA
   subst hA
   rw [inodeAt_nat hi1] at h5
   (try simp -implicitDefEqProofs (disch := first | exact dd | fail) [Tryz.f45, h3', h4, hi1, h5, cInode]); (repeat' ((with_reducible first | (refine Br.out ?_ ?_ <;> intro h <;> (try (have h0 := h; simp only [bH] at h))) | refine AC_snd (c1 _ _ _ _) ?_ | refine AC_snd (c2 _ _ _ _) ?_ | refine AC_snd (c3 _ _ _) ?_ | refine AC_snd (c4 _ _ _ _) ?_ | refine AC_snd (c5 _ _ _ _) ?_ | refine AC_snd (cp _ _ _) ?_ | fail) <;> (try simp -implicitDefEqProofs (disch := first | exact dd | fail) [Tryz.f45, h3', h4, hi1, h5, cInode])))
  ·rw [if_neg h5] at hA
   have c6 := fun a b e => impl_changed_LinkFile a b e f i d s hf h1.2.2 hdu hne h5 (by omega)
   rw [inodeAt_nat hi1] at h5
   generalize touchF (incF (addF f d s i).1 i) d = g at *
   generalize (addF f d s i).2 = v at *
   by_cases hv : v = 0
   ·subst hv
    simp only [if_true] at hA c6
    subst hA
    (try simp -implicitDefEqProofs (disch := first | exact dd | fail) [Tryz.f45, h3', h4, hi1, h5, cInode]); (repeat' ((with_reducible first | (refine Br.out ?_ ?_ <;> intro h <;> (try (have h0 := h; simp only [bH] at h))) | refine AC_snd (c1 _ _ _ _) ?_ | refine AC_snd (c2 _ _ _ _) ?_ | refine AC_snd (c3 _ _ _) ?_ | refine AC_snd (c4 _ _ _ _) ?_ | refine AC_snd (c5 _ _ _ _) ?_ | refine AC_snd (c6 _ _ _) ?_ | fail) <;> (try simp -implicitDefEqProofs (disch := first | exact dd | fail) [Tryz.f45, h3', h4, hi1, h5, cInode])))
   ·simp only [hv, if_false] at hA c6
    subst hA
    (try simp -implicitDefEqProofs (disch := first | exact dd | fail) [Tryz.f45, h3', h4, hi1, h5, cInode]); (repeat' ((with_reducible first | (refine Br.out ?_ ?_ <;> intro h <;> (try (have h0 := h; simp only [bH] at h))) | refine AC_snd (c1 _ _ _ _) ?_ | refine AC_snd (c2 _ _ _ _) ?_ | refine AC_snd (c3 _ _ _) ?_ | refine AC_snd (c4 _ _ _ _) ?_ | refine AC_snd (c5 _ _ _ _) ?_ | refine AC_snd (c6 _ _ _) ?_ | fail) <;> (try simp -implicitDefEqProofs (disch := first | exact dd | fail) [Tryz.f45, h3', h4, hi1, h5, cInode])))
theorem spec_LinkFile (n1 n2 n3 n4 : Option Bool) (f : DFS) (c : DCred) (p q : Str) (hs : SmF f) (hc : c.groups.length ≤ 1048576) (hp : p.length ≤ 1048576) (hq : q.length ≤ 1048576) : Snd Tryz.prog 44 [fFS n1 n2 n3 f, fCred n4 c, .str p, .str q] (.tup [rFS (linkO f c p q).1, .int .i64 (linkO f c p q).2]) [.unk, .unk, .unk, .unk] := Runs.snd (M := M) (c := ⟨4, [4, 5, 8, 9, 10, 11, 12, 13, 14, 16, 17, 18, 19, 27, 38, 51, 62, 72, 76, 84, 103], [], []⟩) tok ks mixed Tryz.func44 (p := []) (by kernel_rfl) (by rfl) (by rfl) <| by
 have c1 := fun a b d e => spec_ResolvePath a b d e f c p hs hc hp
 have c2 := fun a b d e => spec_ResolveParent a b d e f c q hs hc hq
 have hok := resolveF_ok (f := f) (c := c) (p := p)
 have hok2 := resolveQ_ok (f := f) (c := c) (p := q)
 have cp := fun a b d => spec_l08Copy a b d f hs
 have c0 := fun a b d => spec_IsFS a b d f hs
 have c00 := fun a => spec_IsCred a c hc
 obtain ⟨A, hA⟩ : ∃ A, A = linkO f c p q := ⟨_, rfl⟩
 rw [← hA]
 by_cases h0 : (isFS f && isCred c) = true
 rotate_left
 ·have h00 : (resolveF f c p).2 = 1 := by rw [resolveF, if_pos (by simpa using h0)]
  unfold linkO at hA
  rw [if_pos (by rw [h00]; decide), h00] at hA
  subst hA
  (try simp -implicitDefEqProofs (disch := first | exact dd | fail) [Tryz.f44]); (repeat' ((with_reducible first | (refine Br.out ?_ ?_ <;> intro h <;> (try (have h0 := h; simp only [bH] at h))) | refine AC_snd (c0 _ _ _) ?_ | refine AC_snd (c00 _) ?_ | refine AC_snd (cp _ _ _) ?_ | fail) <;> (try simp -implicitDefEqProofs (disch := first | exact dd | fail) [Tryz.f44])))
  all_goals (exfalso; simp_all)
 have h01 := Bool.and_eq_true_iff.1 h0
 unfold linkO at hA
 generalize resolveF f c p = r at *
 generalize resolveQ f c q = w at *
 obtain ⟨x, e⟩ := r
 obtain ⟨y, s, e2⟩ := w
 by_cases he : e = 0
 rotate_left
 ·simp [he] at hA
  subst hA
  (try simp -implicitDefEqProofs (disch := first | exact dd | fail) [Tryz.f44, h01.1, h01.2, he]); (repeat' ((with_reducible first | (refine Br.out ?_ ?_ <;> intro h <;> (try (have h0 := h; simp only [bH] at h))) | refine AC_snd (c0 _ _ _) ?_ | refine AC_snd (c00 _) ?_ | refine AC_snd (c1 _ _ _ _) ?_ | refine AC_snd (cp _ _ _) ?_ | fail) <;> (try simp -implicitDefEqProofs (disch := first | exact dd | fail) [Tryz.f44, h01.1, h01.2, he])))
 subst he
 simp only [ne_eq, not_true_eq_false, if_false] at hA
 by_cases he2 : e2 = 0
 rotate_left
 ·simp [he2] at hA
  subst hA
  (try simp -implicitDefEqProofs (disch := first | exact dd | fail) [Tryz.f44, h01.1, h01.2, he2]); (repeat' ((with_reducible first | (refine Br.out ?_ ?_ <;> intro h <;> (try (have h0 := h; simp only [bH] at h))) | refine AC_snd (c0 _ _ _) ?_ | refine AC_snd (c00 _) ?_ | refine AC_snd (c1 _ _ _ _) ?_ | refine AC_snd (c2 _ _ _ _) ?_ | refine AC_snd (cp _ _ _) ?_ | fail) <;> (try simp -implicitDefEqProofs (disch := first | exact dd | fail) [Tryz.f44, h01.1, h01.2, he2])))
 subst he2
 simp only [ne_eq, not_true_eq_false, if_false] at hA
 have h1 := hok rfl
 have h2 := hok2 rfl
 simp only at h1 h2
 have hf := tr_iff.1 h1.1
 have hn := hf.ni
 have hdu := isDir_use h2.2.2.1
 have hil := hasI_lt h1.2.2
 have hdl := hasI_lt hdu
 have hnl := nameOK_len h2.2.2.2
 have c3 := fun a b d => spec_l10Find a b d f y s hf ⟨hdl.1, hdl.2.1⟩
 have c5 := fun a b d g => spec_l11May a b d g f c y 3 hn hdu hs hc
 obtain ⟨i, rfl⟩ := Int.eq_ofNat_of_zero_le hil.1
 have hi1 : i < f.inodes.length := by omega
 have hdk := isDirI_kind (f := f) (k := i) (by omega)
 rw [inodeAt_nat hi1] at hdk
 by_cases h3 : f.inodes[i].kind = 2
 ·rw [if_pos (by rw [hdk]; simpa using h3)] at hA
  subst hA
  (try simp -implicitDefEqProofs (disch := first | exact dd | fail) [Tryz.f44, h01.1, h01.2, hi1, h3, cInode]); (repeat' ((with_reducible first | (refine Br.out ?_ ?_ <;> intro h <;> (try (have h0 := h; simp only [bH] at h))) | refine AC_snd (c0 _ _ _) ?_ | refine AC_snd (c00 _) ?_ | refine AC_snd (c1 _ _ _ _) ?_ | refine AC_snd (c2 _ _ _ _) ?_ | refine AC_snd (c3 _ _ _) ?_ | refine AC_snd (cp _ _ _) ?_ | fail) <;> (try simp -implicitDefEqProofs (disch := first | exact dd | fail) [Tryz.f44, h01.1, h01.2, hi1, h3, cInode])))
 have h3' : ¬ isDirI f i = true := by rw [hdk]; simpa using h3
 rw [if_neg h3'] at hA
 generalize hfe : findE (entriesI f y) s = fe at *
 obtain ⟨fx, fb⟩ := fe
 cases fb with
 | true =>
  rw [if_pos rfl] at hA
  subst hA
  (try simp -implicitDefEqProofs (disch := first | exact dd | fail) [Tryz.f44, h01.1, h01.2, hi1, h3, cInode]); (repeat' ((with_reducible first | (refine Br.out ?_ ?_ <;> intro h <;> (try (have h0 := h; simp only [bH] at h))) | refine AC_snd (c0 _ _ _) ?_ | refine AC_snd (c00 _) ?_ | refine AC_snd (c1 _ _ _ _) ?_ | refine AC_snd (c2 _ _ _ _) ?_ | refine AC_snd (c3 _ _ _) ?_ | refine AC_snd (cp _ _ _) ?_ | fail) <;> (try simp -implicitDefEqProofs (disch := first | exact dd | fail) [Tryz.f44, h01.1, h01.2, hi1, h3, cInode])))
 | false =>
  rw [if_neg (by simp)] at hA
  by_cases h4 : mayI f c y 3 = true
  rotate_left
  ·have h4' : mayI f c y 3 = false := by simpa using h4
   rw [if_pos h4'] at hA
   subst hA
   (try simp -implicitDefEqProofs (disch := first | exact dd | fail) [Tryz.f44, h01.1, h01.2, hi1, h3, h4', cInode]); (repeat' ((with_reducible first | (refine Br.out ?_ ?_ <;> intro h <;> (try (have h0 := h; simp only [bH] at h))) | refine AC_snd (c0 _ _ _) ?_ | refine AC_snd (c00 _) ?_ | refine AC_snd (c1 _ _ _ _) ?_ | refine AC_snd (c2 _ _ _ _) ?_ | refine AC_snd (c3 _ _ _) ?_ | refine AC_snd (c5 _ _ _ _) ?_ | refine AC_snd (cp _ _ _) ?_ | fail) <;> (try simp -implicitDefEqProofs (disch := first | exact dd | fail) [Tryz.f44, h01.1, h01.2, hi1, h3, h4', cInode])))
  rw [if_neg (by simp [h4])] at hA
  obtain ⟨d, rfl⟩ := Int.eq_ofNat_of_zero_le hdl.1
  have hd1 : d < f.inodes.length := by omega
  have hne : i ≠ d := by
   rintro rfl
   exact h3' h2.2.2.1
  by_cases h5 : (inodeAt f i).links = 1000
  ·rw [if_pos h5] at hA
   subst hA
   rw [inodeAt_nat hi1] at h5
   (try simp -implicitDefEqProofs (disch := first | exact dd | fail) [Tryz.f44, h01.1, h01.2, hi1, h3, h4, h5, cInode]); (repeat' ((with_reducible first | (refine Br.out ?_ ?_ <;> intro h <;> (try (have h0 := h; simp only [bH] at h))) | refine AC_snd (c0 _ _ _) ?_ | refine AC_snd (c00 _) ?_ | refine AC_snd (c1 _ _ _ _) ?_ | refine AC_snd (c2 _ _ _ _) ?_ | refine AC_snd (c3 _ _ _) ?_ | refine AC_snd (c5 _ _ _ _) ?_ | refine AC_snd (cp _ _ _) ?_ | fail) <;> (try simp -implicitDefEqProofs (disch := first | exact dd | fail) [Tryz.f44, h01.1, h01.2, hi1, h3, h4, h5, cInode])))
  ·rw [if_neg h5] at hA
   have c6 := fun a b e => spec_l10Add a b e f d i s hs hf hdu (by omega)
   have hlk := (hasI_ok hf h1.2.2).links
   rw [inodeAt_nat hi1] at h5 hlk
   have hkp := addF_keeps (f := f) (d := d) (s := s) (i := i) ⟨by omega, by simpa using hd1⟩
   generalize addF f d s i = w at *
   obtain ⟨g, v⟩ := w
   by_cases hv : v = 0
   ·subst hv
    simp only [if_true] at hA c6
    subst hA
    have hgl : g.inodes.length = f.inodes.length := hkp.nl
    have hig : i < g.inodes.length := by omega
    have hdg : d < (incF g i).inodes.length := by simp [incF, setN]; omega
    have hgi : g.inodes[i].links = f.inodes[i].links := by
     have := hkp.at' i
     rw [inodeAt_nat hi1] at this
     simp only [inodeAt_nat hig] at this
     rw [this]
    have c7 := spec_l12Touch (incF g i) d hdg
    have hr : (g.inodes.map cInode).set i (cInode { g.inodes[i] with links := g.inodes[i].links + 1 }) = (incF g i).inodes.map cInode := by
     unfold incF setN
     rw [inodeAt_nat hig, ← List.map_set]
     simp
    have hq1 : (incF g i).tick = g.tick := rfl
    have hq2 : (incF g i).quotas = g.quotas := rfl
    have hq3 : (incF g i).data = g.data := rfl
    have hq4 : (incF g i).inodes.length = g.inodes.length := by simp [incF, setN]
    simp only [rFS, hq1, hq2, hq3] at c7
    generalize touchF (incF g i) d = T at *
    generalize (incF g i).inodes = L at *
    simp only [cInode] at hr
    rw [hgi] at hr
    (try simp -implicitDefEqProofs (disch := first | exact dd | fail) [Tryz.f44, h01.1, h01.2, hi1, h3, h4, h5, hig, hgi, hr, hq4, cInode]); (repeat' ((with_reducible first | (refine Br.out ?_ ?_ <;> intro h <;> (try (have h0 := h; simp only [bH] at h))) | refine AC_snd (c0 _ _ _) ?_ | refine AC_snd (c00 _) ?_ | refine AC_snd (c1 _ _ _ _) ?_ | refine AC_snd (c2 _ _ _ _) ?_ | refine AC_snd (c3 _ _ _) ?_ | refine AC_snd (c5 _ _ _ _) ?_ | refine AC_snd (c6 _ _ _) ?_ | refine AC_snd (c7) ?_ | fail) <;> (try simp -implicitDefEqProofs (disch := first | exact dd | fail) [Tryz.f44, h01.1, h01.2, hi1, h3, h4, h5, hig, hgi, hr, hq4, cInode])))
   ·simp only [hv, if_false] at hA c6
    subst hA
    (try simp -implicitDefEqProofs (disch := first | exact dd | fail) [Tryz.f44, h01.1, h01.2, hi1, h3, h4, h5, hv, cInode]); (repeat' ((with_reducible first | (refine Br.out ?_ ?_ <;> intro h <;> (try (have h0 := h; simp only [bH] at h))) | refine AC_snd (c0 _ _ _) ?_ | refine AC_snd (c00 _) ?_ | refine AC_snd (c1 _ _ _ _) ?_ | refine AC_snd (c2 _ _ _ _) ?_ | refine AC_snd (c3 _ _ _) ?_ | refine AC_snd (c5 _ _ _ _) ?_ | refine AC_snd (c6 _ _ _) ?_ | refine AC_snd (cp _ _ _) ?_ | fail) <;> (try simp -implicitDefEqProofs (disch := first | exact dd | fail) [Tryz.f44, h01.1, h01.2, hi1, h3, h4, h5, hv, cInode])))
end Go.Proofs.YtiafmpcmmohdkaaGreat
