import Derived.Test.YtgopfdninbknpaaGreatWC
import Derived.Test.YtgopfdninbknpaaGreatP12p
namespace Go.Proofs.YtgopfdninbknpaaGreat
open Go.Fw
set_option linter.unusedVariables false
set_option linter.unusedSimpArgs false
set_option maxHeartbeats 8000000
set_option maxRecDepth 8000
theorem fs_sm3 {f g:DFS} (h:g=f∨IsFS g) (hs:SmFS f) (m1:(1:Int) + ntFS f≤16777216):SmFS g∧(1:Int) + ntFS g≤16777216:=by
 rcases h with rfl | h
 ·exact ⟨hs,m1⟩
 ·have ht:=tiny_of h
  exact ⟨ht.sm,by have:=ht.nt;omega⟩
theorem laws_FnExactNewObject (n1 n2 n3 n4:Option Bool) (f:DFS) (c:DCred) (p:Str) (kind:Int) (mode:Int) (hf:WfFS f) (hc:WfCred c) (h1:p.length≤maxLen) (h2:(Lit.int .i64 kind).wf=true) (h3:(Lit.int .i64 mode).wf=true):Snd Tryz.prog 3 [fFS n1 n2 n3 f,fCred n4 c, .str p, .int .i64 kind, .int .i64 mode] (.bool true) [.unk, .unk, .unk, .unk, .unk]:=Runs.snd (M:=M) (c:=⟨5,[5,6,10,11,12,13,14,15,16,17,18,19,20,21,22,23,24,25,28,33,38,78,83,88,112,120,123,149,154,157],[],[]⟩) tok ks mixed Tryz.func3 (p := []) (by kernel_rfl) (by rfl) (by rfl) <| by
 (try simp -implicitDefEqProofs (disch:=first|exact dd|fail)[Tryz.f3]);(repeat'((with_reducible first|(refine Br.out ?_ ?_<;>intro h<;>(try(have h0:=h;simp only[bH]at h)))|refine AC_snd (laws_szFS _ _ _ f _ (by omega) (by omega) hf) ?_|fail)<;>(try simp -implicitDefEqProofs (disch:=first|exact dd|fail)[Tryz.f3])))
 have q1 := szR_ge (Int.not_lt.1 (‹¬ szR (wFS f) 1048576 < 0›))
 have sf:SmFS f:=smFS_of (by omega)
 (try simp -implicitDefEqProofs (disch:=first|exact dd|fail)[Tryz.f3]);(repeat'((with_reducible first|(refine Br.out ?_ ?_<;>intro h<;>(try(have h0:=h;simp only[bH]at h)))|refine AC_snd (laws_szCred _ c _ (by omega) (by omega) hc) ?_|fail)<;>(try simp -implicitDefEqProofs (disch:=first|exact dd|fail)[Tryz.f3])))
 have q2:=szR_ge (Int.not_lt.1 (by assumption))
 have sc:SmCred c:=smCred_of (by omega)
 have m1:(1:Int) + ntFS f≤16777216:=by have:=ntFS_le f;omega
 have hsp:=spec_NewObject none none none none f c p kind mode (smF sf) sc.hl_groups (by omega)
 have hip:=impl_NewObject none none none none f c p kind mode (smF sf) sc.hl_groups (by omega)
 obtain ⟨sm2,m2⟩:=fs_sm3 (makeO_fs (f:=f) (c:=c) (p:=p) (kind:=kind) (mode:=mode)) sf m1
 have hn2:nLInt c.groups=c.groups.length:=nLInt_eq _
 have hgl:=sc.hl_groups
 have m3:(1:Int) + ntFS f≤8388608:=by have:=ntFS_le f;omega
 simp only [ntFS] at m3
 generalize (makeO f c p kind mode).1=g at *
 generalize (makeO f c p kind mode).2.1=e1 at *
 generalize (makeO f c p kind mode).2.2=e at *
 (try simp -implicitDefEqProofs (disch:=first|exact dd|fail)[Tryz.f3,mkL_len]);(repeat'((with_reducible first|(refine Br.out ?_ ?_<;>intro h<;>(try(have h0:=h;simp only[bH]at h)))|refine AC_snd (laws_toFS _ _ _ f sf) ?_|refine AC_snd (laws_toCred _ c sc) ?_|refine AC_snd (hsp) ?_|refine AC_snd (hip) ?_|refine AC_snd (laws_eqFS _ _ _ _ _ _ g _ sm2) ?_|refine AC_snd (laws_eqFS _ _ _ _ _ _ f _ sf) ?_|refine AC_snd (laws_eqCred _ _ c _ sc) ?_|refine AC_snd (laws_markFS f _ sf (by omega) m1) ?_|refine AC_snd (laws_markFS g _ sm2 (by omega) m2) ?_|refine AC_snd (laws_markCred c _ sc (by omega) (by simp only [ntCred];omega)) ?_|refine AC_snd (laws_heldFS _ _ _ g _ sm2 (by omega) m2) ?_|fail)<;>(try simp -implicitDefEqProofs (disch:=first|exact dd|fail)[Tryz.f3,mkL_len])))
theorem laws_FnExactCreateFile (n1 n2 n3 n4:Option Bool) (f:DFS) (c:DCred) (p:Str) (mode:Int) (hf:WfFS f) (hc:WfCred c) (h1:p.length≤maxLen) (h2:(Lit.int .i64 mode).wf=true):Snd Tryz.prog 5 [fFS n1 n2 n3 f,fCred n4 c, .str p, .int .i64 mode] (.bool true) [.unk, .unk, .unk, .unk]:=Runs.snd (M:=M) (c:=⟨4,[4,5,8,9,10,11,12,13,14,15,16,17,18,19,20,23,28,33,64,69,74,93,101,104,123,128,131],[],[]⟩) tok ks mixed Tryz.func5 (p := []) (by kernel_rfl) (by rfl) (by rfl) <| by
 (try simp -implicitDefEqProofs (disch:=first|exact dd|fail)[Tryz.f5]);(repeat'((with_reducible first|(refine Br.out ?_ ?_<;>intro h<;>(try(have h0:=h;simp only[bH]at h)))|refine AC_snd (laws_szFS _ _ _ f _ (by omega) (by omega) hf) ?_|fail)<;>(try simp -implicitDefEqProofs (disch:=first|exact dd|fail)[Tryz.f5])))
 have q1 := szR_ge (Int.not_lt.1 (‹¬ szR (wFS f) 1048576 < 0›))
 have sf:SmFS f:=smFS_of (by omega)
 (try simp -implicitDefEqProofs (disch:=first|exact dd|fail)[Tryz.f5]);(repeat'((with_reducible first|(refine Br.out ?_ ?_<;>intro h<;>(try(have h0:=h;simp only[bH]at h)))|refine AC_snd (laws_szCred _ c _ (by omega) (by omega) hc) ?_|fail)<;>(try simp -implicitDefEqProofs (disch:=first|exact dd|fail)[Tryz.f5])))
 have q2:=szR_ge (Int.not_lt.1 (by assumption))
 have sc:SmCred c:=smCred_of (by omega)
 have m1:(1:Int) + ntFS f≤16777216:=by have:=ntFS_le f;omega
 have hsp:=spec_CreateFile none none none none f c p mode (smF sf) sc.hl_groups (by omega)
 have hip:=impl_CreateFile none none none none f c p mode (smF sf) sc.hl_groups (by omega)
 obtain ⟨sm2,m2⟩:=fs_sm3 (makeO1_fs (f:=f) (c:=c) (p:=p) (mode:=mode)) sf m1
 have hn2:nLInt c.groups=c.groups.length:=nLInt_eq _
 have hgl:=sc.hl_groups
 have m3:(1:Int) + ntFS f≤8388608:=by have:=ntFS_le f;omega
 simp only [ntFS] at m3
 generalize (makeO f c p 1 mode).1=g at *
 generalize (makeO f c p 1 mode).2=e at *
 (try simp -implicitDefEqProofs (disch:=first|exact dd|fail)[Tryz.f5,mkL_len]);(repeat'((with_reducible first|(refine Br.out ?_ ?_<;>intro h<;>(try(have h0:=h;simp only[bH]at h)))|refine AC_snd (laws_toFS _ _ _ f sf) ?_|refine AC_snd (laws_toCred _ c sc) ?_|refine AC_snd (hsp) ?_|refine AC_snd (hip) ?_|refine AC_snd (laws_eqFS _ _ _ _ _ _ g _ sm2) ?_|refine AC_snd (laws_eqFS _ _ _ _ _ _ f _ sf) ?_|refine AC_snd (laws_eqCred _ _ c _ sc) ?_|refine AC_snd (laws_markFS f _ sf (by omega) m1) ?_|refine AC_snd (laws_markFS g _ sm2 (by omega) m2) ?_|refine AC_snd (laws_markCred c _ sc (by omega) (by simp only [ntCred];omega)) ?_|refine AC_snd (laws_heldFS _ _ _ g _ sm2 (by omega) m2) ?_|fail)<;>(try simp -implicitDefEqProofs (disch:=first|exact dd|fail)[Tryz.f5,mkL_len])))
theorem laws_FnExactCreateDir (n1 n2 n3 n4:Option Bool) (f:DFS) (c:DCred) (p:Str) (mode:Int) (hf:WfFS f) (hc:WfCred c) (h1:p.length≤maxLen) (h2:(Lit.int .i64 mode).wf=true):Snd Tryz.prog 4 [fFS n1 n2 n3 f,fCred n4 c, .str p, .int .i64 mode] (.bool true) [.unk, .unk, .unk, .unk]:=Runs.snd (M:=M) (c:=⟨4,[4,5,8,9,10,11,12,13,14,15,16,17,18,19,20,23,28,33,64,69,74,93,101,104,123,128,131],[],[]⟩) tok ks mixed Tryz.func4 (p := []) (by kernel_rfl) (by rfl) (by rfl) <| by
 (try simp -implicitDefEqProofs (disch:=first|exact dd|fail)[Tryz.f4]);(repeat'((with_reducible first|(refine Br.out ?_ ?_<;>intro h<;>(try(have h0:=h;simp only[bH]at h)))|refine AC_snd (laws_szFS _ _ _ f _ (by omega) (by omega) hf) ?_|fail)<;>(try simp -implicitDefEqProofs (disch:=first|exact dd|fail)[Tryz.f4])))
 have q1 := szR_ge (Int.not_lt.1 (‹¬ szR (wFS f) 1048576 < 0›))
 have sf:SmFS f:=smFS_of (by omega)
 (try simp -implicitDefEqProofs (disch:=first|exact dd|fail)[Tryz.f4]);(repeat'((with_reducible first|(refine Br.out ?_ ?_<;>intro h<;>(try(have h0:=h;simp only[bH]at h)))|refine AC_snd (laws_szCred _ c _ (by omega) (by omega) hc) ?_|fail)<;>(try simp -implicitDefEqProofs (disch:=first|exact dd|fail)[Tryz.f4])))
 have q2:=szR_ge (Int.not_lt.1 (by assumption))
 have sc:SmCred c:=smCred_of (by omega)
 have m1:(1:Int) + ntFS f≤16777216:=by have:=ntFS_le f;omega
 have hsp:=spec_CreateDir none none none none f c p mode (smF sf) sc.hl_groups (by omega)
 have hip:=impl_CreateDir none none none none f c p mode (smF sf) sc.hl_groups (by omega)
 obtain ⟨sm2,m2⟩:=fs_sm3 (makeO2_fs (f:=f) (c:=c) (p:=p) (mode:=mode)) sf m1
 have hn2:nLInt c.groups=c.groups.length:=nLInt_eq _
 have hgl:=sc.hl_groups
 have m3:(1:Int) + ntFS f≤8388608:=by have:=ntFS_le f;omega
 simp only [ntFS] at m3
 generalize (makeO f c p 2 mode).1=g at *
 generalize (makeO f c p 2 mode).2=e at *
 (try simp -implicitDefEqProofs (disch:=first|exact dd|fail)[Tryz.f4,mkL_len]);(repeat'((with_reducible first|(refine Br.out ?_ ?_<;>intro h<;>(try(have h0:=h;simp only[bH]at h)))|refine AC_snd (laws_toFS _ _ _ f sf) ?_|refine AC_snd (laws_toCred _ c sc) ?_|refine AC_snd (hsp) ?_|refine AC_snd (hip) ?_|refine AC_snd (laws_eqFS _ _ _ _ _ _ g _ sm2) ?_|refine AC_snd (laws_eqFS _ _ _ _ _ _ f _ sf) ?_|refine AC_snd (laws_eqCred _ _ c _ sc) ?_|refine AC_snd (laws_markFS f _ sf (by omega) m1) ?_|refine AC_snd (laws_markFS g _ sm2 (by omega) m2) ?_|refine AC_snd (laws_markCred c _ sc (by omega) (by simp only [ntCred];omega)) ?_|refine AC_snd (laws_heldFS _ _ _ g _ sm2 (by omega) m2) ?_|fail)<;>(try simp -implicitDefEqProofs (disch:=first|exact dd|fail)[Tryz.f4,mkL_len])))
end Go.Proofs.YtgopfdninbknpaaGreat
