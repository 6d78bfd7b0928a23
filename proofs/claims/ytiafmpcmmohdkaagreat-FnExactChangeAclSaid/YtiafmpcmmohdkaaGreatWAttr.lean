import Derived.Test.YtiafmpcmmohdkaaGreatWC
import Derived.Test.YtiafmpcmmohdkaaGreatP15c
namespace Go.Proofs.YtiafmpcmmohdkaaGreat
open Go.Fw
set_option linter.unusedVariables false
set_option linter.unusedSimpArgs false
set_option maxHeartbeats 8000000
set_option maxRecDepth 8000
theorem fs_sm2 {f g : DFS} (h : g = f ∨ IsFS g) (hs : SmFS f) (m1 : (1 : Int) + ntFS f ≤ 16777216) : SmFS g ∧ (1 : Int) + ntFS g ≤ 16777216 := by
 rcases h with rfl | h
 ·exact ⟨hs, m1⟩
 ·have ht := tiny_of h
  exact ⟨ht.sm, by have := ht.nt; omega⟩
theorem laws_FnExactChangeMode (n1 n2 n3 n4 : Option Bool) (f : DFS) (c : DCred) (p : Str) (m : Int) (hf : WfFS f) (hc : WfCred c) (h1 : p.length ≤ maxLen) (h2 : (Lit.int .i64 m).wf = true) : Snd Tryz.prog 11 [fFS n1 n2 n3 f, fCred n4 c, .str p, .int .i64 m] (.bool true) [.unk, .unk, .unk, .unk] := Runs.snd (M := M) (c := ⟨4, [4, 5, 8, 9, 10, 11, 12, 13, 14, 15, 16, 17, 18, 19, 20, 23, 28, 33, 64, 69, 74, 93, 101, 104, 123, 128, 131], [], []⟩) tok ks mixed Tryz.func11 (p := []) (by kernel_rfl) (by rfl) (by rfl) <| by
 have hm1 : -9223372036854775808 ≤ m := of_decide_eq_true (Bool.and_eq_true_iff.1 h2).1
 have hm2 : m ≤ 9223372036854775807 := of_decide_eq_true (Bool.and_eq_true_iff.1 h2).2
 (try simp -implicitDefEqProofs (disch := first | exact dd | fail) [Tryz.f11]); (repeat' ((with_reducible first | (refine Br.out ?_ ?_ <;> intro h <;> (try (have h0 := h; simp only [bH] at h))) | refine AC_snd (laws_szFS _ _ _ f _ (by omega) (by omega) hf) ?_ | fail) <;> (try simp -implicitDefEqProofs (disch := first | exact dd | fail) [Tryz.f11])))
 have q1 := szR_ge (Int.not_lt.1 (‹¬ szR (wFS f) 1048576 < 0›))
 have sf : SmFS f := smFS_of (by omega)
 (try simp -implicitDefEqProofs (disch := first | exact dd | fail) [Tryz.f11]); (repeat' ((with_reducible first | (refine Br.out ?_ ?_ <;> intro h <;> (try (have h0 := h; simp only [bH] at h))) | refine AC_snd (laws_szCred _ c _ (by omega) (by omega) hc) ?_ | fail) <;> (try simp -implicitDefEqProofs (disch := first | exact dd | fail) [Tryz.f11])))
 have q2 := szR_ge (Int.not_lt.1 (by assumption))
 have sc : SmCred c := smCred_of (by omega)
 have m1 : (1 : Int) + ntFS f ≤ 16777216 := by have := ntFS_le f; omega
 have hsp := spec_ChangeMode none none none none f c p m (smF sf) sc.hl_groups (by omega) hm1 (by omega)
 have hip := impl_ChangeMode none none none none f c p m (smF sf) sc.hl_groups (by omega)
 obtain ⟨sm2, m2⟩ := fs_sm2 (mode_fs (f := f) (c := c) (p := p) (m := m)) sf m1
 have hn2 : nLInt c.groups = c.groups.length := nLInt_eq _
 have hgl := sc.hl_groups
 have m3 : (1 : Int) + ntFS f ≤ 8388608 := by have := ntFS_le f; omega
 simp only [ntFS] at m3
 generalize (attrO f c p (modeV c m f.tick)).1 = g at *
 generalize (attrO f c p (modeV c m f.tick)).2 = e at *
 (try simp -implicitDefEqProofs (disch := first | exact dd | fail) [Tryz.f11, mkL_len]); (repeat' ((with_reducible first | (refine Br.out ?_ ?_ <;> intro h <;> (try (have h0 := h; simp only [bH] at h))) | refine AC_snd (laws_toFS _ _ _ f sf) ?_ | refine AC_snd (laws_toCred _ c sc) ?_ | refine AC_snd (hsp) ?_ | refine AC_snd (hip) ?_ | refine AC_snd (laws_eqFS _ _ _ _ _ _ g _ sm2) ?_ | refine AC_snd (laws_eqFS _ _ _ _ _ _ f _ sf) ?_ | refine AC_snd (laws_eqCred _ _ c _ sc) ?_ | refine AC_snd (laws_markFS f _ sf (by omega) m1) ?_ | refine AC_snd (laws_markFS g _ sm2 (by omega) m2) ?_ | refine AC_snd (laws_markCred c _ sc (by omega) (by simp only [ntCred]; omega)) ?_ | refine AC_snd (laws_heldFS _ _ _ g _ sm2 (by omega) m2) ?_ | fail) <;> (try simp -implicitDefEqProofs (disch := first | exact dd | fail) [Tryz.f11, mkL_len])))
theorem laws_FnExactChangeAcl (n1 n2 n3 n4 m1 m2 : Option Bool) (f : DFS) (c : DCred) (p : Str) (a d : List DAcl) (hf : WfFS f) (hc : WfCred c) (h1 : p.length ≤ maxLen) (h2 : a.length ≤ maxLen) (h3 : d.length ≤ maxLen) : Snd Tryz.prog 10 [fFS n1 n2 n3 f, fCred n4 c, .str p, .frz 3 m1 (a.map cAcl), .frz 3 m2 (d.map cAcl)] (.bool true) [.unk, .unk, .unk, .unk, .unk] := Runs.snd (M := M) (c := ⟨5, [5, 6, 10, 11, 12, 13, 14, 15, 16, 17, 18, 19, 20, 21, 22, 23, 24, 27, 32, 37, 42, 47, 86, 91, 96, 101, 106, 131, 139, 142, 164, 169, 172], [], []⟩) tok ks mixed Tryz.func10 (p := []) (by kernel_rfl) (by rfl) (by rfl) <| by
 (try simp -implicitDefEqProofs (disch := first | exact dd | fail) [Tryz.f10]); (repeat' ((with_reducible first | (refine Br.out ?_ ?_ <;> intro h <;> (try (have h0 := h; simp only [bH] at h))) | refine AC_snd (laws_szFS _ _ _ f _ (by omega) (by omega) hf) ?_ | fail) <;> (try simp -implicitDefEqProofs (disch := first | exact dd | fail) [Tryz.f10])))
 have q1 := szR_ge (Int.not_lt.1 (‹¬ szR (wFS f) 1048576 < 0›))
 have sf : SmFS f := smFS_of (by omega)
 (try simp -implicitDefEqProofs (disch := first | exact dd | fail) [Tryz.f10]); (repeat' ((with_reducible first | (refine Br.out ?_ ?_ <;> intro h <;> (try (have h0 := h; simp only [bH] at h))) | refine AC_snd (laws_szCred _ c _ (by omega) (by omega) hc) ?_ | fail) <;> (try simp -implicitDefEqProofs (disch := first | exact dd | fail) [Tryz.f10])))
 have q2 := szR_ge (Int.not_lt.1 (by assumption))
 have sc : SmCred c := smCred_of (by omega)
 (try simp -implicitDefEqProofs (disch := first | exact dd | fail) [Tryz.f10]); (repeat' ((with_reducible first | (refine Br.out ?_ ?_ <;> intro h <;> (try (have h0 := h; simp only [bH] at h))) | refine AC_snd (laws_szAclEntryS _ a _ (by omega) (by omega) h2) ?_ | fail) <;> (try simp -implicitDefEqProofs (disch := first | exact dd | fail) [Tryz.f10])))
 have q3 := szR_ge (Int.not_lt.1 (by assumption))
 have ha : a.length ≤ 1048576 := by omega
 (try simp -implicitDefEqProofs (disch := first | exact dd | fail) [Tryz.f10]); (repeat' ((with_reducible first | (refine Br.out ?_ ?_ <;> intro h <;> (try (have h0 := h; simp only [bH] at h))) | refine AC_snd (laws_szAclEntryS _ d _ (by omega) (by omega) h3) ?_ | fail) <;> (try simp -implicitDefEqProofs (disch := first | exact dd | fail) [Tryz.f10])))
 have q4 := szR_ge (Int.not_lt.1 (by assumption))
 have hd : d.length ≤ 1048576 := by omega
 have k1 : (1 : Int) + ntFS f ≤ 16777216 := by have := ntFS_le f; omega
 have hsp := spec_ChangeAcl none none none none none none f c p a d (smF sf) sc.hl_groups (by omega) ha hd
 have hip := impl_ChangeAcl none none none none none none f c p a d (smF sf) sc.hl_groups (by omega) ha hd
 obtain ⟨sm2, k2⟩ := fs_sm2 (acl_fs (f := f) (c := c) (p := p) (a := a) (d := d)) sf k1
 have hn2 : nLInt c.groups = c.groups.length := nLInt_eq _
 have hn3 : nLAclEntry a = 3 * a.length := nLAcl_eq _
 have hn4 : nLAclEntry d = 3 * d.length := nLAcl_eq _
 have hgl := sc.hl_groups
 have k3 : (1 : Int) + ntFS f ≤ 8388608 := by have := ntFS_le f; omega
 simp only [ntFS] at k3
 generalize (attrO f c p (aclV a d f.tick)).1 = g at *
 generalize (attrO f c p (aclV a d f.tick)).2 = e at *
 (try simp -implicitDefEqProofs (disch := first | exact dd | fail) [Tryz.f10, mkL_len]); (repeat' ((with_reducible first | (refine Br.out ?_ ?_ <;> intro h <;> (try (have h0 := h; simp only [bH] at h))) | refine AC_snd (laws_toFS _ _ _ f sf) ?_ | refine AC_snd (laws_toCred _ c sc) ?_ | refine AC_snd (laws_toAclEntryS _ a ha) ?_ | refine AC_snd (laws_toAclEntryS _ d hd) ?_ | refine AC_snd (hsp) ?_ | refine AC_snd (hip) ?_ | refine AC_snd (laws_eqFS _ _ _ _ _ _ g _ sm2) ?_ | refine AC_snd (laws_eqFS _ _ _ _ _ _ f _ sf) ?_ | refine AC_snd (laws_eqCred _ _ c _ sc) ?_ | refine AC_snd (laws_eqAclEntryS _ _ a _ ha) ?_ | refine AC_snd (laws_eqAclEntryS _ _ d _ hd) ?_ | refine AC_snd (laws_markFS f _ sf (by omega) k1) ?_ | refine AC_snd (laws_markFS g _ sm2 (by omega) k2) ?_ | refine AC_snd (laws_markCred c _ sc (by omega) (by simp only [ntCred]; omega)) ?_ | refine AC_snd (laws_markAclEntryS a _ ha (by omega) (by simp only [ntCred]; omega)) ?_ | refine AC_snd (laws_markAclEntryS d _ hd (by omega) (by simp only [ntCred]; omega)) ?_ | refine AC_snd (laws_heldFS _ _ _ g _ sm2 (by omega) k2) ?_ | fail) <;> (try simp -implicitDefEqProofs (disch := first | exact dd | fail) [Tryz.f10, mkL_len])))
end Go.Proofs.YtiafmpcmmohdkaaGreat
