import Derived.Test.YtiafmpcmmohdkaaGreatP15b
import Derived.Test.YtiafmpcmmohdkaaGreatM28
namespace Go.Proofs.YtiafmpcmmohdkaaGreat
open Go.Fw
set_option linter.unusedVariables false
set_option linter.unusedSimpArgs false
set_option maxHeartbeats 4000000
set_option maxRecDepth 8000
def modeM (c : DCred) (m : Int) (n : DInode) : Int := if n.kind ≠ 2 ∧ c.uid ≠ 0 ∧ inGroup c n.gid = false then iAndNot m 1024 else m
def modeW (c : DCred) (m : Int) (n : DInode) : DInode := { n with mode := modeM c m n }
def modeV (c : DCred) (m t : Int) (n : DInode) : DInode := { n with mode := modeM c m n, tick := t }
theorem modeV_ok {c : DCred} {m t : Int} {n : DInode} (h1 : -9223372036854775808 ≤ m) (h2 : m < 9223372036854775808) (hk : ¬ n.kind = 0) : isInode (modeV c m t n) = isInode { n with mode := m, tick := t } := by
 unfold modeV modeM
 split
 ·exact isInode_mode (n := { n with tick := t }) h1 h2 hk
 ·rfl
theorem wrap_andNot {m : Int} : IntKind.wrap .i64 (((m % 2 ^ IntKind.bits .i64).toNat &&& (2 ^ IntKind.bits .i64 - 1 - 1024 % 2 ^ IntKind.bits .i64) : Nat)) = iAndNot m 1024 := by
 unfold iAndNot
 rw [BitVec.toNat_and, BitVec.toNat_not, BitVec.toNat_ofInt]
 rfl
theorem impl_ChangeMode1 (m1 : Option Bool) (f : DFS) (i : Nat) (c : DCred) (m : Int) (hi : i < f.inodes.length) (hc : c.groups.length ≤ 1048576) : Snd Tryz.prog 109 [wFS f, .int .i64 i, .fptr [.int .i64 m], .fptr [.int .i64 c.uid, .int .i64 c.gid, .frz 1 m1 (c.groups.map ci)]] (.int .i64 0) [wFS (setN f i (modeW c m (inodeAt f i))), .unk, .unk, .unk] := Runs.snd (M := M) (c := ⟨2, [2, 3, 6, 7, 36], [], []⟩) tok ks mixed Tryz.func109 (p := [0]) (by kernel_rfl) (by rfl) (by rfl) <| by
 rw [inodeAt_nat hi]
 have hi2 : i < (f.inodes.map cInode).length := by simpa using hi
 have c1 := fun a => impl_InGroup a c f.inodes[i].gid hc
 unfold setN
 rw [Int.toNat_natCast]
 by_cases hk : f.inodes[i].kind = 2
 ·have hm : modeM c m f.inodes[i] = m := if_neg fun h => h.1 hk
  (try simp -implicitDefEqProofs (disch := first | exact dd | fail) [Tryz.f109, hi, hk, hm, cInode, modeW]); (repeat' ((with_reducible first | (refine Br.out ?_ ?_ <;> intro h <;> (try (have h0 := h; simp only [bH] at h))) | fail) <;> (try simp -implicitDefEqProofs (disch := first | exact dd | fail) [Tryz.f109, hi, hk, hm, cInode, modeW])))
 by_cases hu : c.uid = 0
 ·have hm : modeM c m f.inodes[i] = m := if_neg fun h => h.2.1 hu
  (try simp -implicitDefEqProofs (disch := first | exact dd | fail) [Tryz.f109, hi, hk, hm, cInode, modeW]); (repeat' ((with_reducible first | (refine Br.out ?_ ?_ <;> intro h <;> (try (have h0 := h; simp only [bH] at h))) | refine AC_snd (c1 _) ?_ | fail) <;> (try simp -implicitDefEqProofs (disch := first | exact dd | fail) [Tryz.f109, hi, hk, hm, cInode, modeW])))
  all_goals first | (exfalso; omega)
 cases hg : inGroup c f.inodes[i].gid with
 | true =>
  have hm : modeM c m f.inodes[i] = m := if_neg fun h => by rw [hg] at h; cases h.2.2
  rw [hg] at c1
  (try simp -implicitDefEqProofs (disch := first | exact dd | fail) [Tryz.f109, hi, hk, hm, cInode, modeW]); (repeat' ((with_reducible first | (refine Br.out ?_ ?_ <;> intro h <;> (try (have h0 := h; simp only [bH] at h))) | refine AC_snd (c1 _) ?_ | fail) <;> (try simp -implicitDefEqProofs (disch := first | exact dd | fail) [Tryz.f109, hi, hk, hm, cInode, modeW])))
  all_goals first | (exfalso; omega)
 | false =>
  have hm : modeM c m f.inodes[i] = iAndNot m 1024 := if_pos ⟨hk, hu, hg⟩
  rw [hg] at c1
  (try simp -implicitDefEqProofs (disch := first | exact dd | fail) [Tryz.f109, hi, hk, hm, cInode, modeW]); (repeat' ((with_reducible first | (refine Br.out ?_ ?_ <;> intro h <;> (try (have h0 := h; simp only [bH] at h))) | refine AC_snd (c1 _) ?_ | fail) <;> (try simp -implicitDefEqProofs (disch := first | exact dd | fail) [Tryz.f109, hi, hk, hm, cInode, modeW])))
  all_goals rw [wrap_andNot]
theorem impl_attribute1_ChangeMode (m1 : Option Bool) (f : DFS) (i : Nat) (c : DCred) (m : Int) (hi : i < f.inodes.length) (hs : SmF f) (hc : c.groups.length ≤ 1048576) : Snd Tryz.prog 157 [wFS f, .fptr [.fn 109 [.fptr [.int .i64 m], .fptr [.int .i64 c.uid, .int .i64 c.gid, .frz 1 m1 (c.groups.map ci)]]], .fptr [.int .i64 i]] (.int .i64 (if isInode (modeV c m f.tick (inodeAt f i)) then 0 else 1)) [wFS (setN f i (modeV c m f.tick (inodeAt f i))), .unk, .unk] := Runs.snd (M := M) (c := ⟨1, [1, 2, 4, 5, 11, 32], [], []⟩) tok ks mixed Tryz.func157 (p := [0]) (by kernel_rfl) (by rfl) (by rfl) <| by
 have c1 := impl_ChangeMode1 m1 f i c m hi hc
 have hb := (hs.inode _ (List.getElem_mem hi)).blocks
 have c2 := fun b e g => impl_IsInode b e g (modeV c m f.tick (inodeAt f i)) ⟨by rw [inodeAt_nat hi]; exact hb, by rw [inodeAt_nat hi]; exact (hs.inode _ (List.getElem_mem hi)).acl, by rw [inodeAt_nat hi]; exact (hs.inode _ (List.getElem_mem hi)).dflt⟩
 rw [inodeAt_nat hi] at c1 c2 ⊢
 simp only [setN, Int.toNat_natCast] at c1 ⊢
 obtain ⟨x, hx⟩ : ∃ x, x = f.inodes[i] := ⟨_, rfl⟩
 rw [← hx] at c1 c2 ⊢
 obtain ⟨L, hL⟩ : ∃ L, L = f.inodes.set i (modeW c m x) := ⟨_, rfl⟩
 obtain ⟨L2, hL2⟩ : ∃ L2, L2 = f.inodes.set i (modeV c m f.tick x) := ⟨_, rfl⟩
 rw [← hL] at c1
 rw [← hL2]
 have hLl : L.length = f.inodes.length := by rw [hL]; exact List.length_set
 have hLl2 : L2.length = f.inodes.length := by rw [hL2]; exact List.length_set
 have hi0 : i < L.length := by omega
 have hi2 : i < L2.length := by omega
 have hLi : L[i] = modeW c m x := by simp [hL]
 have hLi2 : L2[i] = modeV c m f.tick x := by simp [hL2]
 have hr : (L.map cInode).set i (cInode (modeV c m f.tick x)) = L2.map cInode := by rw [← List.map_set, hL, hL2]; simp
 clear hL hL2 hx
 simp only [cInode, modeV] at hr c2
 (try simp -implicitDefEqProofs (disch := first | exact dd | fail) [Tryz.f157, hi0, hLi, hLl, hr, hi2, hLi2, hLl2, cInode, modeV, modeW]); (repeat' ((with_reducible first | (refine Br.out ?_ ?_ <;> intro h <;> (try (have h0 := h; simp only [bH] at h))) | refine AC_snd (c1) ?_ | refine AC_snd (c2 _ _ _) ?_ | fail) <;> (try simp -implicitDefEqProofs (disch := first | exact dd | fail) [Tryz.f157, hi0, hLi, hLl, hr, hi2, hLi2, hLl2, cInode, modeV, modeW])))
 all_goals simp [*]
theorem impl_changed_ChangeMode (n1 n2 n3 m1 : Option Bool) (f : DFS) (i : Nat) (c : DCred) (m : Int) (hi : i < f.inodes.length) (hs : SmF f) (hc : c.groups.length ≤ 1048576) : Snd Tryz.prog 86 [fFS n1 n2 n3 f, .fn 157 [.fptr [.fn 109 [.fptr [.int .i64 m], .fptr [.int .i64 c.uid, .int .i64 c.gid, .frz 1 m1 (c.groups.map ci)]]], .fptr [.int .i64 i]]] (.tup [rFS (if isInode (modeV c m f.tick (inodeAt f i)) = true then setN f i (modeV c m f.tick (inodeAt f i)) else f), .int .i64 (if isInode (modeV c m f.tick (inodeAt f i)) = true then 0 else 1)]) [.unk, .unk] := Runs.snd (M := M) (c := ⟨2, [2, 4, 5, 6, 7, 13], [], []⟩) tok ks mixed Tryz.func86 (p := []) (by kernel_rfl) (by rfl) (by rfl) <| by
 have hk := impl_attribute1_ChangeMode m1 f i c m hi hs hc
 generalize setN f i (modeV c m f.tick (inodeAt f i)) = g at *
 by_cases he : isInode (modeV c m f.tick (inodeAt f i)) = true
 ·rw [if_pos he] at hk
  rw [if_pos he, if_pos he]
  (try simp -implicitDefEqProofs (disch := first | exact dd | fail) [Tryz.f86]); (repeat' ((with_reducible first | (refine Br.out ?_ ?_ <;> intro h <;> (try (have h0 := h; simp only [bH] at h))) | refine AC_snd (impl_copyFS _ _ _ f hs) ?_ | refine AC_snd (hk) ?_ | fail) <;> (try simp -implicitDefEqProofs (disch := first | exact dd | fail) [Tryz.f86])))
 ·rw [if_neg he] at hk
  rw [if_neg he, if_neg he]
  (try simp -implicitDefEqProofs (disch := first | exact dd | fail) [Tryz.f86]); (repeat' ((with_reducible first | (refine Br.out ?_ ?_ <;> intro h <;> (try (have h0 := h; simp only [bH] at h))) | refine AC_snd (impl_copyFS _ _ _ f hs) ?_ | refine AC_snd (hk) ?_ | fail) <;> (try simp -implicitDefEqProofs (disch := first | exact dd | fail) [Tryz.f86])))
theorem impl_attribute_ChangeMode (n1 n2 n3 n4 m1 : Option Bool) (f : DFS) (c : DCred) (p : Str) (m : Int) (hs : SmF f) (hc : c.groups.length ≤ 1048576) (hp : p.length ≤ 1048576) : Snd Tryz.prog 103 [fFS n1 n2 n3 f, fCred n4 c, .str p, .fn 109 [.fptr [.int .i64 m], .fptr [.int .i64 c.uid, .int .i64 c.gid, .frz 1 m1 (c.groups.map ci)]]] (.tup [rFS (attrO f c p (modeV c m f.tick)).1, .int .i64 (attrO f c p (modeV c m f.tick)).2]) [.unk, .unk, .unk, .unk] := Runs.snd (M := M) (c := ⟨4, [4, 5, 7, 8, 9, 10, 11, 20, 37], [], []⟩) tok ks mixed Tryz.func103 (p := []) (by kernel_rfl) (by rfl) (by rfl) <| by
 have c1 := fun a b d e => impl_ResolvePath a b d e f c p hs hc hp
 have hok := resolveF_ok (f := f) (c := c) (p := p)
 obtain ⟨A, hA⟩ : ∃ A, A = attrO f c p (modeV c m f.tick) := ⟨_, rfl⟩
 rw [← hA]
 unfold attrO find15 at hA
 generalize resolveF f c p = r at *
 obtain ⟨x, e⟩ := r
 by_cases he : e = 0
 ·subst he
  have h1 := hok rfl
  have hl := hasI_lt h1.2.2
  have hn := (tr_iff.1 h1.1).ni
  obtain ⟨i, rfl⟩ := Int.eq_ofNat_of_zero_le hl.1
  have hil : i < f.inodes.length := by simp only at hl; omega
  have c2 := fun b e g => impl_changed_ChangeMode b e g m1 f i c m hil hs hc
  simp only [ne_eq, not_true_eq_false, if_false] at hA
  by_cases hu : c.uid ≠ 0 ∧ c.uid ≠ (inodeAt f i).uid
  ·rw [if_pos hu] at hA
   simp at hA
   subst hA
   rw [inodeAt_nat hil] at hu
   (try simp -implicitDefEqProofs (disch := first | exact dd | fail) [Tryz.f103, hil, cInode]); (repeat' ((with_reducible first | (refine Br.out ?_ ?_ <;> intro h <;> (try (have h0 := h; simp only [bH] at h))) | refine AC_snd (c1 _ _ _ _) ?_ | refine AC_snd (impl_copyFS _ _ _ f hs) ?_ | fail) <;> (try simp -implicitDefEqProofs (disch := first | exact dd | fail) [Tryz.f103, hil, cInode])))
   all_goals first | (exfalso; omega)
  ·rw [if_neg hu] at hA
   simp at hA
   rw [inodeAt_nat hil] at hu hA c2
   by_cases hv : isInode (modeV c m f.tick f.inodes[i]) = true
   ·rw [if_pos hv] at hA
    rw [if_pos hv, if_pos hv] at c2
    subst hA
    generalize setN f i (modeV c m f.tick f.inodes[i]) = g at *
    (try simp -implicitDefEqProofs (disch := first | exact dd | fail) [Tryz.f103, hil, cInode]); (repeat' ((with_reducible first | (refine Br.out ?_ ?_ <;> intro h <;> (try (have h0 := h; simp only [bH] at h))) | refine AC_snd (c1 _ _ _ _) ?_ | refine AC_snd (c2 _ _ _) ?_ | fail) <;> (try simp -implicitDefEqProofs (disch := first | exact dd | fail) [Tryz.f103, hil, cInode])))
    all_goals first | (exfalso; omega)
   ·rw [if_neg hv] at hA
    rw [if_neg hv, if_neg hv] at c2
    subst hA
    (try simp -implicitDefEqProofs (disch := first | exact dd | fail) [Tryz.f103, hil, cInode]); (repeat' ((with_reducible first | (refine Br.out ?_ ?_ <;> intro h <;> (try (have h0 := h; simp only [bH] at h))) | refine AC_snd (c1 _ _ _ _) ?_ | refine AC_snd (c2 _ _ _) ?_ | fail) <;> (try simp -implicitDefEqProofs (disch := first | exact dd | fail) [Tryz.f103, hil, cInode])))
    all_goals first | (exfalso; omega)
 ·simp [he] at hA
  subst hA
  (try simp -implicitDefEqProofs (disch := first | exact dd | fail) [Tryz.f103, he]); (repeat' ((with_reducible first | (refine Br.out ?_ ?_ <;> intro h <;> (try (have h0 := h; simp only [bH] at h))) | refine AC_snd (c1 _ _ _ _) ?_ | refine AC_snd (impl_copyFS _ _ _ f hs) ?_ | fail) <;> (try simp -implicitDefEqProofs (disch := first | exact dd | fail) [Tryz.f103, he])))
theorem impl_ChangeMode (n1 n2 n3 n4 : Option Bool) (f : DFS) (c : DCred) (p : Str) (m : Int) (hs : SmF f) (hc : c.groups.length ≤ 1048576) (hp : p.length ≤ 1048576) : Snd Tryz.prog 43 [fFS n1 n2 n3 f, fCred n4 c, .str p, .int .i64 m] (.tup [rFS (attrO f c p (modeV c m f.tick)).1, .int .i64 (attrO f c p (modeV c m f.tick)).2]) [.unk, .unk, .unk, .unk] := Runs.snd (M := M) (c := ⟨4, [4, 5, 7, 8, 9], [], []⟩) tok ks mixed Tryz.func43 (p := []) (by kernel_rfl) (by rfl) (by rfl) <| by
 have c1 := fun b e g h => impl_attribute_ChangeMode b e g h n4 f c p m hs hc hp
 generalize attrO f c p (modeV c m f.tick) = r at *
 (try simp -implicitDefEqProofs (disch := first | exact dd | fail) [Tryz.f43]); (repeat' ((with_reducible first | (refine Br.out ?_ ?_ <;> intro h <;> (try (have h0 := h; simp only [bH] at h))) | refine AC_snd (c1 _ _ _ _) ?_ | fail) <;> (try simp -implicitDefEqProofs (disch := first | exact dd | fail) [Tryz.f43])))
theorem spec_ChangeMode (n1 n2 n3 n4 : Option Bool) (f : DFS) (c : DCred) (p : Str) (m : Int) (hs : SmF f) (hc : c.groups.length ≤ 1048576) (hp : p.length ≤ 1048576) (hm1 : -9223372036854775808 ≤ m) (hm2 : m < 9223372036854775808) : Snd Tryz.prog 42 [fFS n1 n2 n3 f, fCred n4 c, .str p, .int .i64 m] (.tup [rFS (attrO f c p (modeV c m f.tick)).1, .int .i64 (attrO f c p (modeV c m f.tick)).2]) [.unk, .unk, .unk, .unk] := Runs.snd (M := M) (c := ⟨4, [4, 5, 8, 9, 10, 11, 12, 13, 24, 40, 56], [], []⟩) tok ks mixed Tryz.func42 (p := []) (by kernel_rfl) (by rfl) (by rfl) <| by
 have c1 := fun b e g h => spec_l15Find b e g h f c p hs hc hp
 have hok := find15_ok (f := f) (c := c) (p := p)
 obtain ⟨A, hA⟩ : ∃ A, A = attrO f c p (modeV c m f.tick) := ⟨_, rfl⟩
 rw [← hA]
 unfold attrO at hA
 generalize find15 f c p = r at *
 obtain ⟨x, e⟩ := r
 by_cases he : e = 0
 ·subst he
  have h1 := hok rfl
  have hl := hasI_lt h1.2.2
  have hn := (tr_iff.1 h1.1).ni
  obtain ⟨i, rfl⟩ := Int.eq_ofNat_of_zero_le hl.1
  have hil : i < f.inodes.length := by simp only at hl; omega
  have hsi := hs.inode _ (List.getElem_mem hil)
  have hil2 : i < (f.inodes.map cInode).length := by simpa using hil
  have hkk : ¬ f.inodes[i].kind = 0 := by have := hl.2.2; rwa [inodeAt_nat hil] at this
  simp only [ne_eq, not_true_eq_false, if_false] at hA
  rw [inodeAt_nat hil] at hA
  have c3 := fun b e g => spec_IsInode b e g { f.inodes[i] with mode := m, tick := f.tick } ⟨hsi.blocks, hsi.acl, hsi.dflt⟩
  have c4 := fun a => spec_InGroup a c f.inodes[i].gid hc
  have hv0 := modeV_ok (c := c) (t := f.tick) hm1 hm2 hkk
  have hrow : (f.inodes.set i (modeV c m f.tick f.inodes[i])).map cInode = (f.inodes.map cInode).set i (cInode (modeV c m f.tick f.inodes[i])) := List.map_set
  by_cases hv : isInode (modeV c m f.tick f.inodes[i]) = true
  ·rw [if_pos hv] at hA
   subst hA
   rw [← hv0, hv] at c3
   simp only [setN, Int.toNat_natCast, hrow]
   simp only [modeV]
   by_cases hk : f.inodes[i].kind = 2
   ·have hm : modeM c m f.inodes[i] = m := if_neg fun h => h.1 hk
    (try simp -implicitDefEqProofs (disch := first | exact dd | fail) [Tryz.f42, hil, hm, cInode]); (repeat' ((with_reducible first | (refine Br.out ?_ ?_ <;> intro h <;> (try (have h0 := h; simp only [bH] at h))) | refine AC_snd (spec_l08Copy _ _ _ f hs) ?_ | refine AC_snd (c1 _ _ _ _) ?_ | refine AC_snd (spec_l07Copy _ _ _ f.inodes[i] hsi) ?_ | refine AC_snd (c3 _ _ _) ?_ | refine AC_snd (c4 _) ?_ | fail) <;> (try simp -implicitDefEqProofs (disch := first | exact dd | fail) [Tryz.f42, hil, hm, cInode])))
    all_goals first | (exfalso; omega)
   by_cases hu : c.uid = 0
   ·have hm : modeM c m f.inodes[i] = m := if_neg fun h => h.2.1 hu
    (try simp -implicitDefEqProofs (disch := first | exact dd | fail) [Tryz.f42, hil, hm, cInode]); (repeat' ((with_reducible first | (refine Br.out ?_ ?_ <;> intro h <;> (try (have h0 := h; simp only [bH] at h))) | refine AC_snd (spec_l08Copy _ _ _ f hs) ?_ | refine AC_snd (c1 _ _ _ _) ?_ | refine AC_snd (spec_l07Copy _ _ _ f.inodes[i] hsi) ?_ | refine AC_snd (c3 _ _ _) ?_ | refine AC_snd (c4 _) ?_ | fail) <;> (try simp -implicitDefEqProofs (disch := first | exact dd | fail) [Tryz.f42, hil, hm, cInode])))
    all_goals first | (exfalso; omega)
   cases hg : inGroup c f.inodes[i].gid with
   | true =>
    have hm : modeM c m f.inodes[i] = m := if_neg fun h => by rw [hg] at h; cases h.2.2
    rw [hg] at c4
    (try simp -implicitDefEqProofs (disch := first | exact dd | fail) [Tryz.f42, hil, hm, cInode]); (repeat' ((with_reducible first | (refine Br.out ?_ ?_ <;> intro h <;> (try (have h0 := h; simp only [bH] at h))) | refine AC_snd (spec_l08Copy _ _ _ f hs) ?_ | refine AC_snd (c1 _ _ _ _) ?_ | refine AC_snd (spec_l07Copy _ _ _ f.inodes[i] hsi) ?_ | refine AC_snd (c3 _ _ _) ?_ | refine AC_snd (c4 _) ?_ | fail) <;> (try simp -implicitDefEqProofs (disch := first | exact dd | fail) [Tryz.f42, hil, hm, cInode])))
    all_goals first | (exfalso; omega)
   | false =>
    have hm : modeM c m f.inodes[i] = iAndNot m 1024 := if_pos ⟨hk, hu, hg⟩
    rw [hg] at c4
    (try simp -implicitDefEqProofs (disch := first | exact dd | fail) [Tryz.f42, hil, hm, cInode]); (repeat' ((with_reducible first | (refine Br.out ?_ ?_ <;> intro h <;> (try (have h0 := h; simp only [bH] at h))) | refine AC_snd (spec_l08Copy _ _ _ f hs) ?_ | refine AC_snd (c1 _ _ _ _) ?_ | refine AC_snd (spec_l07Copy _ _ _ f.inodes[i] hsi) ?_ | refine AC_snd (c3 _ _ _) ?_ | refine AC_snd (c4 _) ?_ | fail) <;> (try simp -implicitDefEqProofs (disch := first | exact dd | fail) [Tryz.f42, hil, hm, cInode])))
    all_goals first | (rw [wrap_andNot]; done) | (exfalso; omega)
  ·rw [if_neg hv] at hA
   subst hA
   have hv' : isInode (modeV c m f.tick f.inodes[i]) = false := by simpa using hv
   rw [← hv0, hv'] at c3
   (try simp -implicitDefEqProofs (disch := first | exact dd | fail) [Tryz.f42, hil, cInode]); (repeat' ((with_reducible first | (refine Br.out ?_ ?_ <;> intro h <;> (try (have h0 := h; simp only [bH] at h))) | refine AC_snd (spec_l08Copy _ _ _ f hs) ?_ | refine AC_snd (c1 _ _ _ _) ?_ | refine AC_snd (spec_l07Copy _ _ _ f.inodes[i] hsi) ?_ | refine AC_snd (c3 _ _ _) ?_ | fail) <;> (try simp -implicitDefEqProofs (disch := first | exact dd | fail) [Tryz.f42, hil, cInode])))
 ·simp [he] at hA
  subst hA
  (try simp -implicitDefEqProofs (disch := first | exact dd | fail) [Tryz.f42, he]); (repeat' ((with_reducible first | (refine Br.out ?_ ?_ <;> intro h <;> (try (have h0 := h; simp only [bH] at h))) | refine AC_snd (spec_l08Copy _ _ _ f hs) ?_ | refine AC_snd (c1 _ _ _ _) ?_ | fail) <;> (try simp -implicitDefEqProofs (disch := first | exact dd | fail) [Tryz.f42, he])))
theorem attrO_fs {f : DFS} {c : DCred} {p : Str} {v : DInode → DInode} (h1 : ∀ n, (v n).blocks = n.blocks) (h2 : ∀ n, (v n).size = n.size) (h3 : ∀ n, (v n).uid = n.uid) (h4 : ∀ n, (v n).kind = n.kind) (h5 : ∀ n s b, v { n with size := s, blocks := b } = { v n with size := s, blocks := b }) : (attrO f c p v).1 = f ∨ IsFS (attrO f c p v).1 := by
 unfold attrO
 split
 ·exact .inl rfl
 rename_i h
 have hok := find15_ok (Classical.not_not.1 h)
 split
 ·rename_i hv
  have hl := hasI_lt hok.2.2
  exact .inr ((tr_iff.1 hok.1).setN (v := v) ⟨hl.1, hl.2.1⟩ (modAt_mod h1 h2 h3 h4 h5) fun _ => tr_iff.1 hv)
 ·exact .inl rfl
theorem acl_fs {f : DFS} {c : DCred} {p : Str} {a d : List DAcl} : (attrO f c p (aclV a d f.tick)).1 = f ∨ IsFS (attrO f c p (aclV a d f.tick)).1 := attrO_fs (fun _ => rfl) (fun _ => rfl) (fun _ => rfl) (fun _ => rfl) (fun _ _ _ => rfl)
theorem mode_fs {f : DFS} {c : DCred} {p : Str} {m : Int} : (attrO f c p (modeV c m f.tick)).1 = f ∨ IsFS (attrO f c p (modeV c m f.tick)).1 := attrO_fs (fun _ => rfl) (fun _ => rfl) (fun _ => rfl) (fun _ => rfl) (fun _ _ _ => rfl)
end Go.Proofs.YtiafmpcmmohdkaaGreat
