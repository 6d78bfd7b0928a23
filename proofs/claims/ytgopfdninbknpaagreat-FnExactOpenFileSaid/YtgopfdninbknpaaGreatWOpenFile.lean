import Derived.Test.YtgopfdninbknpaaGreatWSys
import Derived.Test.YtgopfdninbknpaaGreatP16n
namespace Go.Proofs.YtgopfdninbknpaaGreat
open Go.Fw
set_option linter.unusedVariables false
set_option linter.unusedSimpArgs false
set_option maxHeartbeats 8000000
set_option maxRecDepth 8000
theorem mid_open {s:DSystem} {g:DFS} {k fd:Nat} {i fl:Int} (h:Mid s) (hg:IsFS g) (hi:0≤i∧i < 20):Mid ⟨g,setOpen s.procs k fd ⟨i,0,fl⟩⟩:=by
 refine ⟨hg,by show (setOpen s.procs k fd ⟨i,0,fl⟩).length=4;rw [setOpen_len];exact h.np,fun p hp => ?_⟩
 rcases setOpen_mem hp with h1 | ⟨q,h1,rfl⟩
 ·exact h.proc p h1
 ·obtain ⟨h2,h3,h4⟩:=h.proc q h1
  refine ⟨h2,by simpa using h3,fun o ho h0 => ?_⟩
  rcases List.mem_or_eq_of_mem_set ho with h5 | rfl
  ·exact h4 o h5 h0
  ·exact hi
theorem mid_openT {s:DSystem} {g:DFS} {k fd:Nat} {i fl:Int} (h:Mid s) (hg:IsFS g) (hi:hasI g i=true):Mid (openT s k fd g i fl):=by
 have hl:=hasI_lt hi
 unfold openT
 refine mid_open h ?_ ⟨hl.1,hl.2.1⟩
 split
 ·exact hg
 ·have hk:=resizeS_keeps (f:=g) (i:=i) (Z:=0) ⟨hl.1,by rw [hg.ni];omega⟩
  exact (hg.resize hi (by decide)).touch (by rw [hk.has];exact hi)
theorem openS_sm {s:DSystem} {k flags mode:Int} {p:Str} (sa:SmSystem s) (m1:(1:Int) + ntSystem s≤16777216):SmSystem (openS s k p flags mode).1∧(1:Int) + ntSystem (openS s k p flags mode).1≤16777216:=by
 unfold openS
 split
 rotate_left
 ·exact ⟨sa,m1⟩
 rename_i h
 have hS:=tr_iff.1 h.1
 have hm:=hS.mid
 unfold openD
 split
 ·exact ⟨sa,m1⟩
 split
 ·exact ⟨sa,m1⟩
 split
 ·split
  ·rename_i h0
   have hmk:=makeO_has h0
   exact mid_tiny (mid_openT hm hmk.1 hmk.2)
  ·exact ⟨sa,m1⟩
 split
 ·exact ⟨sa,m1⟩
 rename_i h1
 split
 ·exact ⟨sa,m1⟩
 split
 ·exact ⟨sa,m1⟩
 ·exact mid_tiny (mid_openT hm hS.fs (resolveF_ok (Classical.not_not.1 h1)).2.2)
theorem laws_FnExactOpenFile (n1 n2 n3 n4:Option Bool) (a:DSystem) (k:Int) (p:Str) (flags mode:Int) (ha:WfSystem a) (h1:(Lit.int .i64 k).wf=true) (h2:p.length≤maxLen) (h3:(Lit.int .i64 flags).wf=true) (h4:(Lit.int .i64 mode).wf=true):Snd Tryz.prog 14 [fSystem n1 n2 n3 n4 a, .int .i64 k, .str p, .int .i64 flags, .int .i64 mode] (.bool true) [.unk, .unk, .unk, .unk, .unk]:=Runs.snd (M:=M) (c:=⟨5,[5,10,11,12,13,14,15,16,17,18,19,20,21,22,23,24,27,32,69,74,95,103,106,131,136,139],[],[]⟩) tok ks mixed Tryz.func14 (p := []) (by kernel_rfl) (by rfl) (by rfl) <| by
 (try simp -implicitDefEqProofs (disch:=first|exact dd|fail)[Tryz.f14]);(repeat'((with_reducible first|(refine Br.out ?_ ?_<;>intro h<;>(try(have h0:=h;simp only[bH]at h)))|refine AC_snd (laws_szSystem _ _ _ _ a _ (by omega) (by omega) ha) ?_|fail)<;>(try simp -implicitDefEqProofs (disch:=first|exact dd|fail)[Tryz.f14])))
 have q1:=szR_ge (Int.not_lt.1 (by assumption))
 have sa:SmSystem a:=smSystem_of (by omega)
 have m1:(1:Int) + ntSystem a≤16777216:=by have:=ntSystem_le' a;omega
 have hi:=impl_OpenFile none none none none a k flags mode p (smS sa) (by omega)
 have hsp:=spec_OpenFile none none none none a k flags mode p (smS sa) (by omega)
 obtain ⟨sm2,m2⟩:=openS_sm (k:=k) (p:=p) (flags:=flags) (mode:=mode) sa m1
 generalize (openS a k p flags mode).1=g at *
 generalize (openS a k p flags mode).2.1=e1 at *
 generalize (openS a k p flags mode).2.2=e2 at *
 (try simp -implicitDefEqProofs (disch:=first|exact dd|fail)[Tryz.f14,mkL_len]);(repeat'((with_reducible first|(refine Br.out ?_ ?_<;>intro h<;>(try(have h0:=h;simp only[bH]at h)))|refine AC_snd (laws_toSystem _ _ _ _ a sa) ?_|refine AC_snd (hsp) ?_|refine AC_snd (hi) ?_|refine AC_snd (laws_eqSystem _ _ _ _ _ _ _ _ a _ sa) ?_|refine AC_snd (laws_eqSystem _ _ _ _ _ _ _ _ g _ sm2) ?_|refine AC_snd (laws_markSystem a _ sa (by omega) m1) ?_|refine AC_snd (laws_markSystem g _ sm2 (by omega) m2) ?_|refine AC_snd (laws_heldSystem _ _ _ _ g _ sm2 (by omega) m2) ?_|fail)<;>(try simp -implicitDefEqProofs (disch:=first|exact dd|fail)[Tryz.f14,mkL_len])))
end Go.Proofs.YtgopfdninbknpaaGreat
