import Derived.Test.YtiafmpcmmohdkaaGreatP11p
import Derived.Test.YtiafmpcmmohdkaaGreatP06
namespace Go.Proofs.YtiafmpcmmohdkaaGreat
open Go.Fw
set_option linter.unusedVariables false
set_option linter.unusedSimpArgs false
set_option maxHeartbeats 4000000
set_option maxRecDepth 8000
theorem resolveF_ok {f : DFS} {c : DCred} {p : Str} (h : (resolveF f c p).2 = 0) : isFS f = true ∧ isCred c = true ∧ hasI f (resolveF f c p).1 = true := by
 unfold resolveF at h ⊢
 split
 ·rename_i h1; rw [if_pos h1] at h; cases h
 rename_i h1
 rw [if_neg h1] at h
 have h2 : isFS f = true ∧ isCred c = true := by simpa using h1
 split
 ·rename_i h3; rw [if_pos h3] at h; cases h
 rename_i h3
 rw [if_neg h3] at h
 exact ⟨h2.1, h2.2, walkE_has h⟩
noncomputable def find15 (f : DFS) (c : DCred) (p : Str) : Int × Int := if (resolveF f c p).2 ≠ 0 then (0, (resolveF f c p).2) else if c.uid ≠ 0 ∧ c.uid ≠ (inodeAt f (resolveF f c p).1).uid then (0, 12) else ((resolveF f c p).1, 0)
noncomputable def attrO (f : DFS) (c : DCred) (p : Str) (v : DInode → DInode) : DFS × Int :=
 if (find15 f c p).2 ≠ 0 then (f, (find15 f c p).2) else if isInode (v (inodeAt f (find15 f c p).1)) = true then (setN f (find15 f c p).1 (v (inodeAt f (find15 f c p).1)), 0) else (f, 1)
theorem find15_ok {f : DFS} {c : DCred} {p : Str} (h : (find15 f c p).2 = 0) : isFS f = true ∧ isCred c = true ∧ hasI f (find15 f c p).1 = true := by
 unfold find15 at h ⊢
 split
 ·rename_i h1; rw [if_pos h1] at h; exact absurd h h1
 rename_i h1
 rw [if_neg h1] at h
 have h1 := Classical.not_not.1 h1
 split
 ·rename_i h2; rw [if_pos h2] at h; cases h
 ·exact resolveF_ok h1
theorem spec_l15Find (n1 n2 n3 n4 : Option Bool) (f : DFS) (c : DCred) (p : Str) (hs : SmF f) (hc : c.groups.length ≤ 1048576) (hp : p.length ≤ 1048576) : Snd Tryz.prog 98 [fFS n1 n2 n3 f, fCred n4 c, .str p] (.tup [.int .i64 (find15 f c p).1, .int .i64 (find15 f c p).2]) [.unk, .unk, .unk] := Runs.snd (M := M) (c := ⟨3, [3, 4, 6, 7, 8, 9, 18, 33], [], []⟩) tok ks mixed Tryz.func98 (p := []) (by kernel_rfl) (by rfl) (by rfl) <| by
 have c1 := fun a b d e => spec_ResolvePath a b d e f c p hs hc hp
 have hok := resolveF_ok (f := f) (c := c) (p := p)
 unfold find15
 generalize resolveF f c p = r at *
 obtain ⟨x, e⟩ := r
 by_cases he : e = 0
 ·subst he
  have h1 := hok rfl
  have hl := hasI_lt h1.2.2
  have hn := (tr_iff.1 h1.1).ni
  obtain ⟨i, rfl⟩ := Int.eq_ofNat_of_zero_le hl.1
  have hil : i < f.inodes.length := by simp only at hl; omega
  rw [inodeAt_nat hil]
  (try simp -implicitDefEqProofs (disch := first | exact dd | fail) [Tryz.f98, hil, cInode]); (repeat' ((with_reducible first | (refine Br.out ?_ ?_ <;> intro h <;> (try (have h0 := h; simp only [bH] at h))) | refine AC_snd (c1 _ _ _ _) ?_ | fail) <;> (try simp -implicitDefEqProofs (disch := first | exact dd | fail) [Tryz.f98, hil, cInode])))
  all_goals simp [*]
 ·(try simp -implicitDefEqProofs (disch := first | exact dd | fail) [Tryz.f98, he]); (repeat' ((with_reducible first | (refine Br.out ?_ ?_ <;> intro h <;> (try (have h0 := h; simp only [bH] at h))) | refine AC_snd (c1 _ _ _ _) ?_ | fail) <;> (try simp -implicitDefEqProofs (disch := first | exact dd | fail) [Tryz.f98, he])))
def aclV (a d : List DAcl) (t : Int) (n : DInode) : DInode := { n with acl := a, dflt := d, tick := t }
def aclW (a d : List DAcl) (n : DInode) : DInode := { n with acl := a, dflt := d }
theorem impl_ChangeAcl1 (m1 m2 : Option Bool) (f : DFS) (i : Nat) (a d : List DAcl) (hi : i < f.inodes.length) (ha : a.length ≤ 1048576) (hd : d.length ≤ 1048576) : Snd Tryz.prog 104 [wFS f, .int .i64 i, .fptr [.frz 3 m1 (a.map cAcl)], .fptr [.frz 3 m2 (d.map cAcl)]] (.int .i64 0) [wFS (setN f i (aclW a d (inodeAt f i))), .unk, .unk, .unk] := Runs.snd (M := M) (c := ⟨2, [2, 3, 6], [], []⟩) tok ks mixed Tryz.func104 (p := [0]) (by kernel_rfl) (by rfl) (by rfl) <| by
 rw [inodeAt_nat hi]
 have hi2 : i < (f.inodes.map cInode).length := by simpa using hi
 unfold setN
 rw [Int.toNat_natCast]
 (try simp -implicitDefEqProofs (disch := first | exact dd | fail) [Tryz.f104, hi, cInode, aclW]); (repeat' ((with_reducible first | (refine Br.out ?_ ?_ <;> intro h <;> (try (have h0 := h; simp only [bH] at h))) | refine AC_snd (slices_CloneAcl _ a ha) ?_ | refine AC_snd (slices_CloneAcl _ d hd) ?_ | fail) <;> (try simp -implicitDefEqProofs (disch := first | exact dd | fail) [Tryz.f104, hi, cInode, aclW])))
theorem setN_set {f : DFS} {i : Nat} {n m : DInode} : setN (setN f i n) i m = setN f i m := by
 simp [setN]
theorem setN_self {f : DFS} {i : Nat} {n : DInode} (hi : i < f.inodes.length) : inodeAt (setN f i n) i = n := by
 simp [setN, inodeAt, hi]
theorem SmF.setN {f : DFS} {i : Int} {n : DInode} (hs : SmF f) (hn : SmI n) : SmF (setN f i n) := by
 refine ⟨hs.quotas, by simpa [Go.Fw.setN] using hs.inodes, fun m hm => ?_, hs.data⟩
 rcases List.mem_or_eq_of_mem_set hm with h | rfl
 ·exact hs.inode m h
 ·exact hn
theorem impl_attribute1_ChangeAcl (m1 m2 : Option Bool) (f : DFS) (i : Nat) (a d : List DAcl) (hi : i < f.inodes.length) (hs : SmF f) (ha : a.length ≤ 1048576) (hd : d.length ≤ 1048576) : Snd Tryz.prog 157 [wFS f, .fptr [.fn 104 [.fptr [.frz 3 m1 (a.map cAcl)], .fptr [.frz 3 m2 (d.map cAcl)]]], .fptr [.int .i64 i]] (.int .i64 (if isInode (aclV a d f.tick (inodeAt f i)) then 0 else 1)) [wFS (setN f i (aclV a d f.tick (inodeAt f i))), .unk, .unk] := Runs.snd (M := M) (c := ⟨1, [1, 2, 4, 5, 11, 32], [], []⟩) tok ks mixed Tryz.func157 (p := [0]) (by kernel_rfl) (by rfl) (by rfl) <| by
 have c1 := impl_ChangeAcl1 m1 m2 f i a d hi ha hd
 have hb := (hs.inode _ (List.getElem_mem hi)).blocks
 have c2 := fun b e g => impl_IsInode b e g (aclV a d f.tick (inodeAt f i)) ⟨by rw [inodeAt_nat hi]; exact hb, ha, hd⟩
 rw [inodeAt_nat hi] at c1 c2 ⊢
 simp only [setN, Int.toNat_natCast] at c1 ⊢
 obtain ⟨x, hx⟩ : ∃ x, x = f.inodes[i] := ⟨_, rfl⟩
 rw [← hx] at c1 c2 ⊢
 obtain ⟨L, hL⟩ : ∃ L, L = f.inodes.set i (aclW a d x) := ⟨_, rfl⟩
 obtain ⟨L2, hL2⟩ : ∃ L2, L2 = f.inodes.set i (aclV a d f.tick x) := ⟨_, rfl⟩
 rw [← hL] at c1
 rw [← hL2]
 have hLl : L.length = f.inodes.length := by rw [hL]; exact List.length_set
 have hLl2 : L2.length = f.inodes.length := by rw [hL2]; exact List.length_set
 have hi0 : i < L.length := by omega
 have hi2 : i < L2.length := by omega
 have hLi : L[i] = aclW a d x := by simp [hL]
 have hLi2 : L2[i] = aclV a d f.tick x := by simp [hL2]
 have hr : (L.map cInode).set i (cInode (aclV a d f.tick x)) = L2.map cInode := by rw [← List.map_set, hL, hL2]; simp
 clear hL hL2 hx
 simp only [cInode, aclV] at hr c2
 (try simp -implicitDefEqProofs (disch := first | exact dd | fail) [Tryz.f157, hi0, hLi, hLl, hr, hi2, hLi2, hLl2, cInode, aclV, aclW]); (repeat' ((with_reducible first | (refine Br.out ?_ ?_ <;> intro h <;> (try (have h0 := h; simp only [bH] at h))) | refine AC_snd (c1) ?_ | refine AC_snd (c2 _ _ _) ?_ | fail) <;> (try simp -implicitDefEqProofs (disch := first | exact dd | fail) [Tryz.f157, hi0, hLi, hLl, hr, hi2, hLi2, hLl2, cInode, aclV, aclW])))
 all_goals simp [*]
theorem impl_changed_ChangeAcl (n1 n2 n3 m1 m2 : Option Bool) (f : DFS) (i : Nat) (a d : List DAcl) (hi : i < f.inodes.length) (hs : SmF f) (ha : a.length ≤ 1048576) (hd : d.length ≤ 1048576) : Snd Tryz.prog 86 [fFS n1 n2 n3 f, .fn 157 [.fptr [.fn 104 [.fptr [.frz 3 m1 (a.map cAcl)], .fptr [.frz 3 m2 (d.map cAcl)]]], .fptr [.int .i64 i]]] (.tup [rFS (if isInode (aclV a d f.tick (inodeAt f i)) = true then setN f i (aclV a d f.tick (inodeAt f i)) else f), .int .i64 (if isInode (aclV a d f.tick (inodeAt f i)) = true then 0 else 1)]) [.unk, .unk] := Runs.snd (M := M) (c := ⟨2, [2, 4, 5, 6, 7, 13], [], []⟩) tok ks mixed Tryz.func86 (p := []) (by kernel_rfl) (by rfl) (by rfl) <| by
 have hc := impl_attribute1_ChangeAcl m1 m2 f i a d hi hs ha hd
 generalize setN f i (aclV a d f.tick (inodeAt f i)) = g at *
 by_cases he : isInode (aclV a d f.tick (inodeAt f i)) = true
 ·rw [if_pos he] at hc
  rw [if_pos he, if_pos he]
  (try simp -implicitDefEqProofs (disch := first | exact dd | fail) [Tryz.f86]); (repeat' ((with_reducible first | (refine Br.out ?_ ?_ <;> intro h <;> (try (have h0 := h; simp only [bH] at h))) | refine AC_snd (impl_copyFS _ _ _ f hs) ?_ | refine AC_snd (hc) ?_ | fail) <;> (try simp -implicitDefEqProofs (disch := first | exact dd | fail) [Tryz.f86])))
 ·rw [if_neg he] at hc
  rw [if_neg he, if_neg he]
  (try simp -implicitDefEqProofs (disch := first | exact dd | fail) [Tryz.f86]); (repeat' ((with_reducible first | (refine Br.out ?_ ?_ <;> intro h <;> (try (have h0 := h; simp only [bH] at h))) | refine AC_snd (impl_copyFS _ _ _ f hs) ?_ | refine AC_snd (hc) ?_ | fail) <;> (try simp -implicitDefEqProofs (disch := first | exact dd | fail) [Tryz.f86])))
theorem find15_eq {f : DFS} {c : DCred} {p : Str} : (find15 f c p).2 = (if (resolveF f c p).2 ≠ 0 then (resolveF f c p).2 else if c.uid ≠ 0 ∧ c.uid ≠ (inodeAt f (resolveF f c p).1).uid then 12 else 0) ∧ ((find15 f c p).2 = 0 → (find15 f c p).1 = (resolveF f c p).1) := by
 unfold find15
 split
 ·rename_i h; exact ⟨rfl, fun e => absurd e h⟩
 ·split
  ·exact ⟨rfl, fun e => by cases e⟩
  ·exact ⟨rfl, fun _ => rfl⟩
theorem impl_attribute_ChangeAcl (n1 n2 n3 n4 m1 m2 : Option Bool) (f : DFS) (c : DCred) (p : Str) (a d : List DAcl) (hs : SmF f) (hc : c.groups.length ≤ 1048576) (hp : p.length ≤ 1048576) (ha : a.length ≤ 1048576) (hd : d.length ≤ 1048576) : Snd Tryz.prog 103 [fFS n1 n2 n3 f, fCred n4 c, .str p, .fn 104 [.fptr [.frz 3 m1 (a.map cAcl)], .fptr [.frz 3 m2 (d.map cAcl)]]] (.tup [rFS (attrO f c p (aclV a d f.tick)).1, .int .i64 (attrO f c p (aclV a d f.tick)).2]) [.unk, .unk, .unk, .unk] := Runs.snd (M := M) (c := ⟨4, [4, 5, 7, 8, 9, 10, 11, 20, 37], [], []⟩) tok ks mixed Tryz.func103 (p := []) (by kernel_rfl) (by rfl) (by rfl) <| by
 have c1 := fun a b d e => impl_ResolvePath a b d e f c p hs hc hp
 have hok := resolveF_ok (f := f) (c := c) (p := p)
 obtain ⟨A, hA⟩ : ∃ A, A = attrO f c p (aclV a d f.tick) := ⟨_, rfl⟩
 rw [← hA]
 unfold attrO find15 at hA
 generalize resolveF f c p = r at *
 obtain ⟨x, e⟩ := r
 by_cases he : e = 0
 ·subst he
  have h1 := hok rfl
  have hl := hasI_lt h1.2.2
  have hn := (tr_iff.1 h1.1).ni
  obtain ⟨i, rfl⟩ := Int.eq_ofNat_of_zero_le hl.1
  have hil : i < f.inodes.length := by simp only at hl; omega
  have c2 := fun b e g => impl_changed_ChangeAcl b e g m1 m2 f i a d hil hs ha hd
  simp only [ne_eq, not_true_eq_false, if_false] at hA
  by_cases hu : c.uid ≠ 0 ∧ c.uid ≠ (inodeAt f i).uid
  ·rw [if_pos hu] at hA
   simp at hA
   subst hA
   rw [inodeAt_nat hil] at hu
   (try simp -implicitDefEqProofs (disch := first | exact dd | fail) [Tryz.f103, hil, cInode]); (repeat' ((with_reducible first | (refine Br.out ?_ ?_ <;> intro h <;> (try (have h0 := h; simp only [bH] at h))) | refine AC_snd (c1 _ _ _ _) ?_ | refine AC_snd (impl_copyFS _ _ _ f hs) ?_ | fail) <;> (try simp -implicitDefEqProofs (disch := first | exact dd | fail) [Tryz.f103, hil, cInode])))
   all_goals first | (exfalso; omega)
  ·rw [if_neg hu] at hA
   simp at hA
   rw [inodeAt_nat hil] at hu hA c2
   by_cases hv : isInode (aclV a d f.tick f.inodes[i]) = true
   ·rw [if_pos hv] at hA
    rw [if_pos hv, if_pos hv] at c2
    subst hA
    generalize setN f i (aclV a d f.tick f.inodes[i]) = g at *
    (try simp -implicitDefEqProofs (disch := first | exact dd | fail) [Tryz.f103, hil, cInode]); (repeat' ((with_reducible first | (refine Br.out ?_ ?_ <;> intro h <;> (try (have h0 := h; simp only [bH] at h))) | refine AC_snd (c1 _ _ _ _) ?_ | refine AC_snd (c2 _ _ _) ?_ | fail) <;> (try simp -implicitDefEqProofs (disch := first | exact dd | fail) [Tryz.f103, hil, cInode])))
    all_goals first | (exfalso; omega)
   ·rw [if_neg hv] at hA
    rw [if_neg hv, if_neg hv] at c2
    subst hA
    (try simp -implicitDefEqProofs (disch := first | exact dd | fail) [Tryz.f103, hil, cInode]); (repeat' ((with_reducible first | (refine Br.out ?_ ?_ <;> intro h <;> (try (have h0 := h; simp only [bH] at h))) | refine AC_snd (c1 _ _ _ _) ?_ | refine AC_snd (c2 _ _ _) ?_ | fail) <;> (try simp -implicitDefEqProofs (disch := first | exact dd | fail) [Tryz.f103, hil, cInode])))
    all_goals first | (exfalso; omega)
 ·simp [he] at hA
  subst hA
  (try simp -implicitDefEqProofs (disch := first | exact dd | fail) [Tryz.f103, he]); (repeat' ((with_reducible first | (refine Br.out ?_ ?_ <;> intro h <;> (try (have h0 := h; simp only [bH] at h))) | refine AC_snd (c1 _ _ _ _) ?_ | refine AC_snd (impl_copyFS _ _ _ f hs) ?_ | fail) <;> (try simp -implicitDefEqProofs (disch := first | exact dd | fail) [Tryz.f103, he])))
theorem impl_ChangeAcl (n1 n2 n3 n4 m1 m2 : Option Bool) (f : DFS) (c : DCred) (p : Str) (a d : List DAcl) (hs : SmF f) (hc : c.groups.length ≤ 1048576) (hp : p.length ≤ 1048576) (ha : a.length ≤ 1048576) (hd : d.length ≤ 1048576) : Snd Tryz.prog 38 [fFS n1 n2 n3 f, fCred n4 c, .str p, .frz 3 m1 (a.map cAcl), .frz 3 m2 (d.map cAcl)] (.tup [rFS (attrO f c p (aclV a d f.tick)).1, .int .i64 (attrO f c p (aclV a d f.tick)).2]) [.unk, .unk, .unk, .unk, .unk] := Runs.snd (M := M) (c := ⟨5, [5, 6, 8, 9, 10, 11], [], []⟩) tok ks mixed Tryz.func38 (p := []) (by kernel_rfl) (by rfl) (by rfl) <| by
 have c1 := fun b e g h => impl_attribute_ChangeAcl b e g h m1 m2 f c p a d hs hc hp ha hd
 generalize attrO f c p (aclV a d f.tick) = r at *
 (try simp -implicitDefEqProofs (disch := first | exact dd | fail) [Tryz.f38]); (repeat' ((with_reducible first | (refine Br.out ?_ ?_ <;> intro h <;> (try (have h0 := h; simp only [bH] at h))) | refine AC_snd (c1 _ _ _ _) ?_ | fail) <;> (try simp -implicitDefEqProofs (disch := first | exact dd | fail) [Tryz.f38])))
theorem spec_ChangeAcl (n1 n2 n3 n4 m1 m2 : Option Bool) (f : DFS) (c : DCred) (p : Str) (a d : List DAcl) (hs : SmF f) (hc : c.groups.length ≤ 1048576) (hp : p.length ≤ 1048576) (ha : a.length ≤ 1048576) (hd : d.length ≤ 1048576) : Snd Tryz.prog 36 [fFS n1 n2 n3 f, fCred n4 c, .str p, .frz 3 m1 (a.map cAcl), .frz 3 m2 (d.map cAcl)] (.tup [rFS (attrO f c p (aclV a d f.tick)).1, .int .i64 (attrO f c p (aclV a d f.tick)).2]) [.unk, .unk, .unk, .unk, .unk] := Runs.snd (M := M) (c := ⟨5, [5, 6, 10, 11, 12, 13, 14, 15, 26, 46], [], []⟩) tok ks mixed Tryz.func36 (p := []) (by kernel_rfl) (by rfl) (by rfl) <| by
 have c1 := fun b e g h => spec_l15Find b e g h f c p hs hc hp
 have hok := find15_ok (f := f) (c := c) (p := p)
 obtain ⟨A, hA⟩ : ∃ A, A = attrO f c p (aclV a d f.tick) := ⟨_, rfl⟩
 rw [← hA]
 unfold attrO at hA
 generalize find15 f c p = r at *
 obtain ⟨x, e⟩ := r
 by_cases he : e = 0
 ·subst he
  have h1 := hok rfl
  have hl := hasI_lt h1.2.2
  have hn := (tr_iff.1 h1.1).ni
  obtain ⟨i, rfl⟩ := Int.eq_ofNat_of_zero_le hl.1
  have hil : i < f.inodes.length := by simp only at hl; omega
  have hsi := hs.inode _ (List.getElem_mem hil)
  have hil2 : i < (f.inodes.map cInode).length := by simpa using hil
  simp only [ne_eq, not_true_eq_false, if_false] at hA
  rw [inodeAt_nat hil] at hA
  have c3 := fun b e g => spec_IsInode b e g (aclV a d f.tick f.inodes[i]) ⟨hsi.blocks, ha, hd⟩
  have hrow : (f.inodes.set i (aclV a d f.tick f.inodes[i])).map cInode = (f.inodes.map cInode).set i (cInode (aclV a d f.tick f.inodes[i])) := List.map_set
  by_cases hv : isInode (aclV a d f.tick f.inodes[i]) = true
  ·rw [if_pos hv] at hA
   subst hA
   rw [hv] at c3
   simp only [setN, Int.toNat_natCast, hrow]
   simp only [aclV] at c3 ⊢
   (try simp -implicitDefEqProofs (disch := first | exact dd | fail) [Tryz.f36, hil, cInode]); (repeat' ((with_reducible first | (refine Br.out ?_ ?_ <;> intro h <;> (try (have h0 := h; simp only [bH] at h))) | refine AC_snd (spec_l08Copy _ _ _ f hs) ?_ | refine AC_snd (c1 _ _ _ _) ?_ | refine AC_snd (spec_l07Copy _ _ _ f.inodes[i] hsi) ?_ | refine AC_snd (spec_l05Copy _ a ha) ?_ | refine AC_snd (spec_l05Copy _ d hd) ?_ | refine AC_snd (c3 _ _ _) ?_ | fail) <;> (try simp -implicitDefEqProofs (disch := first | exact dd | fail) [Tryz.f36, hil, cInode])))
  ·rw [if_neg hv] at hA
   subst hA
   have hv' : isInode (aclV a d f.tick f.inodes[i]) = false := by simpa using hv
   rw [hv'] at c3
   simp only [aclV] at c3
   (try simp -implicitDefEqProofs (disch := first | exact dd | fail) [Tryz.f36, hil, cInode]); (repeat' ((with_reducible first | (refine Br.out ?_ ?_ <;> intro h <;> (try (have h0 := h; simp only [bH] at h))) | refine AC_snd (spec_l08Copy _ _ _ f hs) ?_ | refine AC_snd (c1 _ _ _ _) ?_ | refine AC_snd (spec_l07Copy _ _ _ f.inodes[i] hsi) ?_ | refine AC_snd (spec_l05Copy _ a ha) ?_ | refine AC_snd (spec_l05Copy _ d hd) ?_ | refine AC_snd (c3 _ _ _) ?_ | fail) <;> (try simp -implicitDefEqProofs (disch := first | exact dd | fail) [Tryz.f36, hil, cInode])))
 ·simp [he] at hA
  subst hA
  (try simp -implicitDefEqProofs (disch := first | exact dd | fail) [Tryz.f36, he]); (repeat' ((with_reducible first | (refine Br.out ?_ ?_ <;> intro h <;> (try (have h0 := h; simp only [bH] at h))) | refine AC_snd (spec_l08Copy _ _ _ f hs) ?_ | refine AC_snd (c1 _ _ _ _) ?_ | fail) <;> (try simp -implicitDefEqProofs (disch := first | exact dd | fail) [Tryz.f36, he])))
end Go.Proofs.YtiafmpcmmohdkaaGreat
