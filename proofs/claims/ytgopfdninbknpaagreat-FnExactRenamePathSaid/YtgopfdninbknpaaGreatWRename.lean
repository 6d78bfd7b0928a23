import Derived.Test.YtgopfdninbknpaaGreatWC
import Derived.Test.YtgopfdninbknpaaGreatP14u
namespace Go.Proofs.YtgopfdninbknpaaGreat
open Go.Fw
set_option linter.unusedVariables false
set_option linter.unusedSimpArgs false
set_option maxHeartbeats 8000000
set_option maxRecDepth 8000
theorem fs_sm5 {f g:DFS} (h:g=f∨IsFS g) (hs:SmFS f) (m1:(1:Int) + ntFS f≤16777216):SmFS g∧(1:Int) + ntFS g≤16777216:=by
 rcases h with rfl | h
 ·exact ⟨hs,m1⟩
 ·have ht:=tiny_of h
  exact ⟨ht.sm,by have:=ht.nt;omega⟩
theorem laws_FnExactRenamePath (n1 n2 n3 n4 n5:Option Bool) (f:DFS) (c:DCred) (p:Str) (q:Str) (l:List Int) (hf:WfFS f) (hc:WfCred c) (h1:p.length≤maxLen) (h2:q.length≤maxLen) (h3:l.length≤maxLen):Snd Tryz.prog 8 [fFS n1 n2 n3 f,fCred n4 c, .str p, .str q, .frz 1 n5 (l.map ci)] (.bool true) [.unk, .unk, .unk, .unk, .unk]:=Runs.snd (M:=M) (c:=⟨5,[5,6,10,11,12,13,14,15,16,17,18,19,20,21,22,23,26,29,32,37,42,78,83,88,93,115,123,126,147,152,155],[],[]⟩) tok ks mixed Tryz.func8 (p := []) (by kernel_rfl) (by rfl) (by rfl) <| by
 have h3':=h3
 unfold maxLen at h3'
 (try simp -implicitDefEqProofs (disch:=first|exact dd|fail)[Tryz.f8]);(repeat'((with_reducible first|(refine Br.out ?_ ?_<;>intro h<;>(try(have h0:=h;simp only[bH]at h)))|refine AC_snd (laws_szFS _ _ _ f _ (by omega) (by omega) hf) ?_|fail)<;>(try simp -implicitDefEqProofs (disch:=first|exact dd|fail)[Tryz.f8])))
 have q1 := szR_ge (Int.not_lt.1 (‹¬ szR (wFS f) 1048576 < 0›))
 have sf:SmFS f:=smFS_of (by omega)
 (try simp -implicitDefEqProofs (disch:=first|exact dd|fail)[Tryz.f8]);(repeat'((with_reducible first|(refine Br.out ?_ ?_<;>intro h<;>(try(have h0:=h;simp only[bH]at h)))|refine AC_snd (laws_szCred _ c _ (by omega) (by omega) hc) ?_|fail)<;>(try simp -implicitDefEqProofs (disch:=first|exact dd|fail)[Tryz.f8])))
 have q2:=szR_ge (Int.not_lt.1 (by assumption))
 have sc:SmCred c:=smCred_of (by omega)
 have m1:(1:Int) + ntFS f≤16777216:=by have:=ntFS_le f;omega
 have hl:l.length≤1048576:=by omega
 have hsp:=spec_RenamePath none none none none none f c p q l (smF sf) sc.hl_groups (by omega) (by omega) hl
 have hip:=impl_RenamePath none none none none none f c p q l (smF sf) sc.hl_groups (by omega) (by omega) hl
 obtain ⟨sm2,m2⟩:=fs_sm5 (renameO_fs (f:=f) (c:=c) (p:=p) (q:=q) (l:=l)) sf m1
 have hn2:nLInt c.groups=c.groups.length:=nLInt_eq _
 have hgl:=sc.hl_groups
 have m3:(1:Int) + ntFS f≤8388608:=by have:=ntFS_le f;omega
 have hn3:nLInt l=l.length:=nLInt_eq _
 simp only [ntFS] at m3
 generalize (renameO f c p q l).1=g at *
 generalize (renameO f c p q l).2=e at *
 (try simp -implicitDefEqProofs (disch:=first|exact dd|fail)[Tryz.f8,mkL_len]);(repeat'((with_reducible first|(refine Br.out ?_ ?_<;>intro h<;>(try(have h0:=h;simp only[bH]at h)))|refine AC_snd (laws_toFS _ _ _ f sf) ?_|refine AC_snd (laws_toCred _ c sc) ?_|refine AC_snd (laws_toIntS _ l hl) ?_|refine AC_snd (hsp) ?_|refine AC_snd (hip) ?_|refine AC_snd (laws_eqFS _ _ _ _ _ _ g _ sm2) ?_|refine AC_snd (laws_eqFS _ _ _ _ _ _ f _ sf) ?_|refine AC_snd (laws_eqCred _ _ c _ sc) ?_|refine AC_snd (laws_eqIntS _ _ l _ h3) ?_|refine AC_snd (laws_eqIntS _ _ l _ hl) ?_|refine AC_snd (laws_markFS f _ sf (by omega) m1) ?_|refine AC_snd (laws_markFS g _ sm2 (by omega) m2) ?_|refine AC_snd (laws_markCred c _ sc (by omega) (by simp only [ntCred];omega)) ?_|refine AC_snd (laws_markIntS l _ hl (by omega) (by simp only [ntCred];omega)) ?_|refine AC_snd (laws_heldFS _ _ _ g _ sm2 (by omega) m2) ?_|fail)<;>(try simp -implicitDefEqProofs (disch:=first|exact dd|fail)[Tryz.f8,mkL_len])))
end Go.Proofs.YtgopfdninbknpaaGreat
