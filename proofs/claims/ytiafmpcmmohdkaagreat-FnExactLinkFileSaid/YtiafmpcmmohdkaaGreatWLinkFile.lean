import Derived.Test.YtiafmpcmmohdkaaGreatWC
import Derived.Test.YtiafmpcmmohdkaaGreatP14m
namespace Go.Proofs.YtiafmpcmmohdkaaGreat
open Go.Fw
set_option linter.unusedVariables false
set_option linter.unusedSimpArgs false
set_option maxHeartbeats 8000000
set_option maxRecDepth 8000
theorem linkO_fs {f : DFS} {c : DCred} {p q : Str} : (linkO f c p q).1 = f ∨ IsFS (linkO f c p q).1 := by
 unfold linkO
 split
 ·exact .inl rfl
 rename_i h1
 have hok := resolveF_ok (Classical.not_not.1 h1)
 split
 ·exact .inl rfl
 rename_i h2
 have hok2 := resolveQ_ok (Classical.not_not.1 h2)
 split
 ·exact .inl rfl
 rename_i h3
 split
 ·exact .inl rfl
 split
 ·exact .inl rfl
 split
 ·exact .inl rfl
 rename_i h6
 split
 ·rename_i h7
  right
  have hf := tr_iff.1 hok.1
  have hdu := isDir_use hok2.2.2.1
  have hil := hasI_lt hok.2.2
  have hdl := hasI_lt hdu
  have hn := hf.ni
  have hkp := addF_keeps (f := f) (d := (resolveQ f c q).1) (s := (resolveQ f c q).2.1) (i := (resolveF f c p).1) ⟨hdl.1, by omega⟩
  have ha := hf.add (SmF.of hf) hdu h7
  have hi2 : (resolveF f c p).1.toNat < (addF f (resolveQ f c q).1 (resolveQ f c q).2.1 (resolveF f c p).1).1.inodes.length := by rw [hkp.nl]; omega
  have hl : (inodeAt (addF f (resolveQ f c q).1 (resolveQ f c q).2.1 (resolveF f c p).1).1 (resolveF f c p).1).links ≠ 1000 := by
   rw [hkp.at']
   exact h6
  have hinc := incFS ha (by rw [hkp.has]; exact hok.2.2) hl
  exact hinc.touch (by rw [incF_has hi2 ha.ni, hkp.has]; exact hdu)
 ·exact .inl rfl
theorem laws_FnExactLinkFile (n1 n2 n3 n4 : Option Bool) (f : DFS) (c : DCred) (p q : Str) (hf : WfFS f) (hc : WfCred c) (h1 : p.length ≤ maxLen) (h2 : q.length ≤ maxLen) : Snd Tryz.prog 12 [fFS n1 n2 n3 f, fCred n4 c, .str p, .str q] (.bool true) [.unk, .unk, .unk, .unk] := Runs.snd (M := M) (c := ⟨4, [4, 5, 8, 9, 10, 11, 12, 13, 14, 15, 16, 17, 18, 19, 20, 23, 26, 31, 36, 67, 72, 77, 96, 104, 107, 126, 131, 134], [], []⟩) tok ks mixed Tryz.func12 (p := []) (by kernel_rfl) (by rfl) (by rfl) <| by
 (try simp -implicitDefEqProofs (disch := first | exact dd | fail) [Tryz.f12]); (repeat' ((with_reducible first | (refine Br.out ?_ ?_ <;> intro h <;> (try (have h0 := h; simp only [bH] at h))) | refine AC_snd (laws_szFS _ _ _ f _ (by omega) (by omega) hf) ?_ | fail) <;> (try simp -implicitDefEqProofs (disch := first | exact dd | fail) [Tryz.f12])))
 have q1 := szR_ge (Int.not_lt.1 (‹¬ szR (wFS f) 1048576 < 0›))
 have sf : SmFS f := smFS_of (by omega)
 (try simp -implicitDefEqProofs (disch := first | exact dd | fail) [Tryz.f12]); (repeat' ((with_reducible first | (refine Br.out ?_ ?_ <;> intro h <;> (try (have h0 := h; simp only [bH] at h))) | refine AC_snd (laws_szCred _ c _ (by omega) (by omega) hc) ?_ | fail) <;> (try simp -implicitDefEqProofs (disch := first | exact dd | fail) [Tryz.f12])))
 have q2 := szR_ge (Int.not_lt.1 (by assumption))
 have sc : SmCred c := smCred_of (by omega)
 have m1 : (1 : Int) + ntFS f ≤ 16777216 := by have := ntFS_le f; omega
 have hsp := spec_LinkFile none none none none f c p q (smF sf) sc.hl_groups (by omega) (by omega)
 have hip := impl_LinkFile none none none none f c p q (smF sf) sc.hl_groups (by omega) (by omega)
 obtain ⟨sm2, m2⟩ : SmFS (linkO f c p q).1 ∧ (1 : Int) + ntFS (linkO f c p q).1 ≤ 16777216 := by
  rcases linkO_fs (f := f) (c := c) (p := p) (q := q) with h | h
  ·rw [h]; exact ⟨sf, m1⟩
  ·have ht := tiny_of h
   exact ⟨ht.sm, by have := ht.nt; omega⟩
 have hn2 : nLInt c.groups = c.groups.length := nLInt_eq _
 have hgl := sc.hl_groups
 have m3 : (1 : Int) + ntFS f ≤ 8388608 := by have := ntFS_le f; omega
 simp only [ntFS] at m3
 generalize (linkO f c p q).1 = g at *
 generalize (linkO f c p q).2 = e at *
 (try simp -implicitDefEqProofs (disch := first | exact dd | fail) [Tryz.f12, mkL_len]); (repeat' ((with_reducible first | (refine Br.out ?_ ?_ <;> intro h <;> (try (have h0 := h; simp only [bH] at h))) | refine AC_snd (laws_toFS _ _ _ f sf) ?_ | refine AC_snd (laws_toCred _ c sc) ?_ | refine AC_snd (hsp) ?_ | refine AC_snd (hip) ?_ | refine AC_snd (laws_eqFS _ _ _ _ _ _ g _ sm2) ?_ | refine AC_snd (laws_eqFS _ _ _ _ _ _ f _ sf) ?_ | refine AC_snd (laws_eqCred _ _ c _ sc) ?_ | refine AC_snd (laws_markFS f _ sf (by omega) m1) ?_ | refine AC_snd (laws_markFS g _ sm2 (by omega) m2) ?_ | refine AC_snd (laws_markCred c _ sc (by omega) (by simp only [ntCred]; omega)) ?_ | refine AC_snd (laws_heldFS _ _ _ g _ sm2 (by omega) m2) ?_ | fail) <;> (try simp -implicitDefEqProofs (disch := first | exact dd | fail) [Tryz.f12, mkL_len])))
end Go.Proofs.YtiafmpcmmohdkaaGreat
