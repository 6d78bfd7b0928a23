import Derived.Test.YtgopfdninbknpaaGreatWC
import Derived.Test.YtgopfdninbknpaaGreatP13y
namespace Go.Proofs.YtgopfdninbknpaaGreat
open Go.Fw
set_option linter.unusedVariables false
set_option linter.unusedSimpArgs false
set_option maxHeartbeats 8000000
set_option maxRecDepth 8000
theorem fs_sm4 {f g:DFS} (h:g=f∨IsFS g) (hs:SmFS f) (m1:(1:Int) + ntFS f≤16777216):SmFS g∧(1:Int) + ntFS g≤16777216:=by
 rcases h with rfl | h
 ·exact ⟨hs,m1⟩
 ·have ht:=tiny_of h
  exact ⟨ht.sm,by have:=ht.nt;omega⟩
theorem laws_FnExactRemoveFile (n1 n2 n3 n4 n5:Option Bool) (f:DFS) (c:DCred) (p:Str) (l:List Int) (hf:WfFS f) (hc:WfCred c) (h1:p.length≤maxLen) (h2:l.length≤maxLen):Snd Tryz.prog 7 [fFS n1 n2 n3 f,fCred n4 c, .str p, .frz 1 n5 (l.map ci)] (.bool true) [.unk, .unk, .unk, .unk]:=Runs.snd (M:=M) (c:=⟨4,[4,5,8,9,10,11,12,13,14,15,16,17,18,19,20,21,24,27,32,37,71,76,81,86,108,116,119,139,144,147],[],[]⟩) tok ks mixed Tryz.func7 (p := []) (by kernel_rfl) (by rfl) (by rfl) <| by
 have h2':=h2
 unfold maxLen at h2'
 (try simp -implicitDefEqProofs (disch:=first|exact dd|fail)[Tryz.f7]);(repeat'((with_reducible first|(refine Br.out ?_ ?_<;>intro h<;>(try(have h0:=h;simp only[bH]at h)))|refine AC_snd (laws_szFS _ _ _ f _ (by omega) (by omega) hf) ?_|fail)<;>(try simp -implicitDefEqProofs (disch:=first|exact dd|fail)[Tryz.f7])))
 have q1 := szR_ge (Int.not_lt.1 (‹¬ szR (wFS f) 1048576 < 0›))
 have sf:SmFS f:=smFS_of (by omega)
 (try simp -implicitDefEqProofs (disch:=first|exact dd|fail)[Tryz.f7]);(repeat'((with_reducible first|(refine Br.out ?_ ?_<;>intro h<;>(try(have h0:=h;simp only[bH]at h)))|refine AC_snd (laws_szCred _ c _ (by omega) (by omega) hc) ?_|fail)<;>(try simp -implicitDefEqProofs (disch:=first|exact dd|fail)[Tryz.f7])))
 have q2:=szR_ge (Int.not_lt.1 (by assumption))
 have sc:SmCred c:=smCred_of (by omega)
 have m1:(1:Int) + ntFS f≤16777216:=by have:=ntFS_le f;omega
 have hl:l.length≤1048576:=by omega
 have hsp:=spec_RemoveFile none none none none none f c p l (smF sf) sc.hl_groups (by omega) hl
 have hip:=impl_RemoveFile none none none none none f c p l (smF sf) sc.hl_groups (by omega) hl
 obtain ⟨sm2,m2⟩:=fs_sm4 (unmakeO1_fs (f:=f) (c:=c) (p:=p) (l:=l)) sf m1
 have hn2:nLInt c.groups=c.groups.length:=nLInt_eq _
 have hgl:=sc.hl_groups
 have m3:(1:Int) + ntFS f≤8388608:=by have:=ntFS_le f;omega
 have hn3:nLInt l=l.length:=nLInt_eq _
 simp only [ntFS] at m3
 generalize (unmakeO f c p l 1 6).1=g at *
 generalize (unmakeO f c p l 1 6).2=e at *
 (try simp -implicitDefEqProofs (disch:=first|exact dd|fail)[Tryz.f7,mkL_len]);(repeat'((with_reducible first|(refine Br.out ?_ ?_<;>intro h<;>(try(have h0:=h;simp only[bH]at h)))|refine AC_snd (laws_toFS _ _ _ f sf) ?_|refine AC_snd (laws_toCred _ c sc) ?_|refine AC_snd (laws_toIntS _ l hl) ?_|refine AC_snd (hsp) ?_|refine AC_snd (hip) ?_|refine AC_snd (laws_eqFS _ _ _ _ _ _ g _ sm2) ?_|refine AC_snd (laws_eqFS _ _ _ _ _ _ f _ sf) ?_|refine AC_snd (laws_eqCred _ _ c _ sc) ?_|refine AC_snd (laws_eqIntS _ _ l _ h2) ?_|refine AC_snd (laws_eqIntS _ _ l _ hl) ?_|refine AC_snd (laws_markFS f _ sf (by omega) m1) ?_|refine AC_snd (laws_markFS g _ sm2 (by omega) m2) ?_|refine AC_snd (laws_markCred c _ sc (by omega) (by simp only [ntCred];omega)) ?_|refine AC_snd (laws_markIntS l _ hl (by omega) (by simp only [ntCred];omega)) ?_|refine AC_snd (laws_heldFS _ _ _ g _ sm2 (by omega) m2) ?_|fail)<;>(try simp -implicitDefEqProofs (disch:=first|exact dd|fail)[Tryz.f7,mkL_len])))
theorem laws_FnExactRemoveDir (n1 n2 n3 n4 n5:Option Bool) (f:DFS) (c:DCred) (p:Str) (l:List Int) (hf:WfFS f) (hc:WfCred c) (h1:p.length≤maxLen) (h2:l.length≤maxLen):Snd Tryz.prog 6 [fFS n1 n2 n3 f,fCred n4 c, .str p, .frz 1 n5 (l.map ci)] (.bool true) [.unk, .unk, .unk, .unk]:=Runs.snd (M:=M) (c:=⟨4,[4,5,8,9,10,11,12,13,14,15,16,17,18,19,20,21,24,27,32,37,71,76,81,86,108,116,119,139,144,147],[],[]⟩) tok ks mixed Tryz.func6 (p := []) (by kernel_rfl) (by rfl) (by rfl) <| by
 have h2':=h2
 unfold maxLen at h2'
 (try simp -implicitDefEqProofs (disch:=first|exact dd|fail)[Tryz.f6]);(repeat'((with_reducible first|(refine Br.out ?_ ?_<;>intro h<;>(try(have h0:=h;simp only[bH]at h)))|refine AC_snd (laws_szFS _ _ _ f _ (by omega) (by omega) hf) ?_|fail)<;>(try simp -implicitDefEqProofs (disch:=first|exact dd|fail)[Tryz.f6])))
 have q1 := szR_ge (Int.not_lt.1 (‹¬ szR (wFS f) 1048576 < 0›))
 have sf:SmFS f:=smFS_of (by omega)
 (try simp -implicitDefEqProofs (disch:=first|exact dd|fail)[Tryz.f6]);(repeat'((with_reducible first|(refine Br.out ?_ ?_<;>intro h<;>(try(have h0:=h;simp only[bH]at h)))|refine AC_snd (laws_szCred _ c _ (by omega) (by omega) hc) ?_|fail)<;>(try simp -implicitDefEqProofs (disch:=first|exact dd|fail)[Tryz.f6])))
 have q2:=szR_ge (Int.not_lt.1 (by assumption))
 have sc:SmCred c:=smCred_of (by omega)
 have m1:(1:Int) + ntFS f≤16777216:=by have:=ntFS_le f;omega
 have hl:l.length≤1048576:=by omega
 have hsp:=spec_RemoveDir none none none none none f c p l (smF sf) sc.hl_groups (by omega) hl
 have hip:=impl_RemoveDir none none none none none f c p l (smF sf) sc.hl_groups (by omega) hl
 obtain ⟨sm2,m2⟩:=fs_sm4 (unmakeO2_fs (f:=f) (c:=c) (p:=p) (l:=l)) sf m1
 have hn2:nLInt c.groups=c.groups.length:=nLInt_eq _
 have hgl:=sc.hl_groups
 have m3:(1:Int) + ntFS f≤8388608:=by have:=ntFS_le f;omega
 have hn3:nLInt l=l.length:=nLInt_eq _
 simp only [ntFS] at m3
 generalize (unmakeO f c p l 2 5).1=g at *
 generalize (unmakeO f c p l 2 5).2=e at *
 (try simp -implicitDefEqProofs (disch:=first|exact dd|fail)[Tryz.f6,mkL_len]);(repeat'((with_reducible first|(refine Br.out ?_ ?_<;>intro h<;>(try(have h0:=h;simp only[bH]at h)))|refine AC_snd (laws_toFS _ _ _ f sf) ?_|refine AC_snd (laws_toCred _ c sc) ?_|refine AC_snd (laws_toIntS _ l hl) ?_|refine AC_snd (hsp) ?_|refine AC_snd (hip) ?_|refine AC_snd (laws_eqFS _ _ _ _ _ _ g _ sm2) ?_|refine AC_snd (laws_eqFS _ _ _ _ _ _ f _ sf) ?_|refine AC_snd (laws_eqCred _ _ c _ sc) ?_|refine AC_snd (laws_eqIntS _ _ l _ h2) ?_|refine AC_snd (laws_eqIntS _ _ l _ hl) ?_|refine AC_snd (laws_markFS f _ sf (by omega) m1) ?_|refine AC_snd (laws_markFS g _ sm2 (by omega) m2) ?_|refine AC_snd (laws_markCred c _ sc (by omega) (by simp only [ntCred];omega)) ?_|refine AC_snd (laws_markIntS l _ hl (by omega) (by simp only [ntCred];omega)) ?_|refine AC_snd (laws_heldFS _ _ _ g _ sm2 (by omega) m2) ?_|fail)<;>(try simp -implicitDefEqProofs (disch:=first|exact dd|fail)[Tryz.f6,mkL_len])))
end Go.Proofs.YtgopfdninbknpaaGreat
