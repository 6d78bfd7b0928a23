import Derived.Test.YtgopfdninbknpaaGreatP14h
import Derived.Test.YtgopfdninbknpaaGreatP16m
import Derived.Test.YtgopfdninbknpaaGreatP12p
import Derived.Test.YtgopfdninbknpaaGreatP14
import Derived.Test.YtgopfdninbknpaaGreatP16c
namespace Go.Proofs.YtgopfdninbknpaaGreat
open Go.Fw
set_option linter.unusedVariables false
set_option linter.unusedSimpArgs false
set_option maxHeartbeats 1000000
set_option maxRecDepth 8000
theorem openD_fail {s:DSystem} {k flags mode:Int} {p:Str} (h:(openD s k p flags mode).2.2≠0):openD s k p flags mode=(s,0,(openD s k p flags mode).2.2):=by
 unfold openD at h ⊢
 split
 ·rfl
 rename_i h1
 rw [if_neg h1] at h
 split
 ·rfl
 rename_i h2
 rw [if_neg h2] at h
 split
 ·rename_i h3
  rw [if_pos h3] at h
  split
  ·rename_i h4
   rw [if_pos h4] at h
   exact absurd rfl h
  ·rfl
 rename_i h3
 rw [if_neg h3] at h
 split
 ·rfl
 rename_i h4
 rw [if_neg h4] at h
 split
 ·rfl
 rename_i h5
 rw [if_neg h5] at h
 split
 ·rfl
 rename_i h6
 rw [if_neg h6] at h
 exact absurd rfl h
theorem impl_OpenFile (n1 n2 n3 n4:Option Bool) (s:DSystem) (k flags mode:Int) (p:Str) (hs:SmS s) (hp:p.length≤1048576):Snd Tryz.prog 59 [fSystem n1 n2 n3 n4 s, .int .i64 k, .str p, .int .i64 flags, .int .i64 mode] (.tup [rSystem (openS s k p flags mode).1, .int .i64 (openS s k p flags mode).2.1, .int .i64 (openS s k p flags mode).2.2]) [.unk, .unk, .unk, .unk, .unk]:=Runs.snd (M:=M) (c:=⟨5,[5,10,11,12,13,14,15,23,37],[],[]⟩) tok ks mixed Tryz.func59 (p := []) (by kernel_rfl) (by rfl) (by rfl) <| by
 have c0:=fun a b c d=>impl_copySystem a b c d s hs
 have c1:=fun a b c d=>impl_IsSystem a b c d s hs
 have cp:=impl_isProc k
 obtain ⟨A,hA⟩:∃ A,A=openS s k p flags mode:=⟨_,rfl⟩
 rw [←hA]
 unfold openS at hA
 by_cases h0:isSystem s=true
 rotate_left
 ·have h0':isSystem s=false:=by simpa using h0
  rw [if_neg (fun H=>h0 H.1)] at hA
  subst hA
  (try simp -implicitDefEqProofs (disch:=first|exact dd|fail)[Tryz.f59,h0']);(repeat'((with_reducible first|(refine Br.out ?_ ?_<;>intro h<;>(try(have h0:=h;simp only[bH]at h)))|refine AC_snd (c0 _ _ _ _) ?_|refine AC_snd (c1 _ _ _ _) ?_|fail)<;>(try simp -implicitDefEqProofs (disch:=first|exact dd|fail)[Tryz.f59,h0'])))
 by_cases hk:0≤k∧k < 4
 rotate_left
 ·rw [if_neg (fun H=>hk H.2)] at hA
  subst hA
  rw [decide_eq_false hk] at cp
  (try simp -implicitDefEqProofs (disch:=first|exact dd|fail)[Tryz.f59,h0]);(repeat'((with_reducible first|(refine Br.out ?_ ?_<;>intro h<;>(try(have h0:=h;simp only[bH]at h)))|refine AC_snd (c0 _ _ _ _) ?_|refine AC_snd (c1 _ _ _ _) ?_|refine AC_snd (cp) ?_|fail)<;>(try simp -implicitDefEqProofs (disch:=first|exact dd|fail)[Tryz.f59,h0])))
 rw [if_pos ⟨h0,hk⟩] at hA
 rw [decide_eq_true hk] at cp
 have co:=impl_open s k flags mode p (tr_iff.1 h0) hk hp
 have hfail:=openD_fail (s:=s) (k:=k) (p:=p) (flags:=flags) (mode:=mode)
 generalize openD s k p flags mode=r at *
 obtain ⟨g,fd,e⟩:=r
 by_cases he:e=0
 ·subst he
  subst hA
  (try simp -implicitDefEqProofs (disch:=first|exact dd|fail)[Tryz.f59,h0]);(repeat'((with_reducible first|(refine Br.out ?_ ?_<;>intro h<;>(try(have h0:=h;simp only[bH]at h)))|refine AC_snd (c0 _ _ _ _) ?_|refine AC_snd (c1 _ _ _ _) ?_|refine AC_snd (cp) ?_|refine AC_snd (co) ?_|fail)<;>(try simp -implicitDefEqProofs (disch:=first|exact dd|fail)[Tryz.f59,h0])))
 ·have:=hfail he
  simp only [Prod.mk.injEq] at this
  obtain ⟨rfl,rfl,-⟩:=this
  subst hA
  (try simp -implicitDefEqProofs (disch:=first|exact dd|fail)[Tryz.f59,h0,he]);(repeat'((with_reducible first|(refine Br.out ?_ ?_<;>intro h<;>(try(have h0:=h;simp only[bH]at h)))|refine AC_snd (c0 _ _ _ _) ?_|refine AC_snd (c1 _ _ _ _) ?_|refine AC_snd (cp) ?_|refine AC_snd (co) ?_|fail)<;>(try simp -implicitDefEqProofs (disch:=first|exact dd|fail)[Tryz.f59,h0,he])))
theorem freeFd_at {l:List DOpen} {j:Nat} (h:j < l.length):freeFd j (l.drop j)=if l[j].flags=0 then (j:Int) else freeFd (j + 1) (l.drop (j + 1)):=by
 rw [List.drop_eq_getElem_cons h,freeFd]
theorem spec_l16Free (n1 n2:Option Bool) (p:DProc) (hl:p.files.length≤1048576):Snd Tryz.prog 135 [.agg [.int .i64 p.cred.uid, .int .i64 p.cred.gid, .frz 1 n1 (p.cred.groups.map ci), .frz 3 n2 (p.files.map cOpen)]] (.int .i64 (freeFd 0 p.files)) [.unk]:=Runs.snd (M:=M) (c:=⟨1,[1,2,3,4,6,7,8,9,15],[],[(1,[0,1,2,6,7,8,9,15])]⟩) tok ks mixed Tryz.func135 (p := []) (by kernel_rfl) (by rfl) (by rfl) <| by
 obtain ⟨A,hA⟩:∃ A,A=freeFd 0 p.files:=⟨_,rfl⟩
 rw [←hA]
 (try simp -implicitDefEqProofs (disch:=first|exact dd|fail)[Tryz.f135]);(repeat'((with_reducible first|(refine Br.out ?_ ?_<;>intro h<;>(try(have h0:=h;simp only[bH]at h)))|fail)<;>(try simp -implicitDefEqProofs (disch:=first|exact dd|fail)[Tryz.f135])))
 refine AL_for 8 p.files.length (fun i=>A=freeFd i (p.files.drop i)) rfl (by simpa using hA) (fun i n hlt he ih => ?_) (fun n he => ?_)
 ·rw [freeFd_at hlt] at he
  by_cases hz:p.files[i].flags=0
  ·rw [if_pos hz] at he
   subst he
   (try simp -implicitDefEqProofs (disch:=first|exact dd|fail)[Tryz.f135,hlt,hz,cOpen]);(repeat'((with_reducible first|(refine Br.out ?_ ?_<;>intro h<;>(try(have h0:=h;simp only[bH]at h)))|fail)<;>(try simp -implicitDefEqProofs (disch:=first|exact dd|fail)[Tryz.f135,hlt,hz,cOpen])))
  ·rw [if_neg hz] at he
   have hi:=ih he
   (try simp -implicitDefEqProofs (disch:=first|exact dd|fail)[Tryz.f135,hlt,hz,cOpen]);(repeat'((with_reducible first|(refine Br.out ?_ ?_<;>intro h<;>(try(have h0:=h;simp only[bH]at h)))|fail)<;>(try simp -implicitDefEqProofs (disch:=first|exact dd|fail)[Tryz.f135,hlt,hz,cOpen])))
   all_goals first | exact hi
 ·rw [List.drop_length] at he
  subst he
  (try simp -implicitDefEqProofs (disch:=first|exact dd|fail)[Tryz.f135,freeFd]);(repeat'((with_reducible first|(refine Br.out ?_ ?_<;>intro h<;>(try(have h0:=h;simp only[bH]at h)))|fail)<;>(try simp -implicitDefEqProofs (disch:=first|exact dd|fail)[Tryz.f135,freeFd])))
theorem spec_OpenFile (n1 n2 n3 n4:Option Bool) (s:DSystem) (k flags mode:Int) (p:Str) (hs:SmS s) (hp:p.length≤1048576):Snd Tryz.prog 58 [fSystem n1 n2 n3 n4 s, .int .i64 k, .str p, .int .i64 flags, .int .i64 mode] (.tup [rSystem (openS s k p flags mode).1, .int .i64 (openS s k p flags mode).2.1, .int .i64 (openS s k p flags mode).2.2]) [.unk, .unk, .unk, .unk, .unk]:=Runs.snd (M:=M) (c:=⟨5,[5,10,11,12,13,14,15,16,17,18,19,20,33,43,62,81,88,94,105,118],[],[]⟩) tok ks mixed Tryz.func58 (p := []) (by kernel_rfl) (by rfl) (by rfl) <| by
 have c0:=fun a b c d=>spec_l16Copy a b c d s hs
 have c1:=fun a b c d=>spec_IsSystem a b c d s hs
 have cf:=spec_l16Flags flags
 obtain ⟨A,hA⟩:∃ A,A=openS s k p flags mode:=⟨_,rfl⟩
 rw [←hA]
 unfold openS at hA
 by_cases h0:isSystem s=true
 rotate_left
 ·have h0':isSystem s=false:=by simpa using h0
  rw [if_neg (fun H=>h0 H.1)] at hA
  subst hA
  (try simp -implicitDefEqProofs (disch:=first|exact dd|fail)[Tryz.f58,h0']);(repeat'((with_reducible first|(refine Br.out ?_ ?_<;>intro h<;>(try(have h0:=h;simp only[bH]at h)))|refine AC_snd (c0 _ _ _ _) ?_|refine AC_snd (c1 _ _ _ _) ?_|refine AC_snd (spec_l01In _ _ _) ?_|refine AC_snd (cf) ?_|fail)<;>(try simp -implicitDefEqProofs (disch:=first|exact dd|fail)[Tryz.f58,h0'])))
 by_cases hk:0≤k∧k < 4
 rotate_left
 ·rw [if_neg (fun H=>hk H.2)] at hA
  subst hA
  (try simp -implicitDefEqProofs (disch:=first|exact dd|fail)[Tryz.f58,h0]);(repeat'((with_reducible first|(refine Br.out ?_ ?_<;>intro h<;>(try(have h0:=h;simp only[bH]at h)))|refine AC_snd (c0 _ _ _ _) ?_|refine AC_snd (c1 _ _ _ _) ?_|refine AC_snd (spec_l01In _ _ _) ?_|refine AC_snd (cf) ?_|fail)<;>(try simp -implicitDefEqProofs (disch:=first|exact dd|fail)[Tryz.f58,h0])))
  all_goals first | (exfalso;omega)
 rw [if_pos ⟨h0,hk⟩] at hA
 have hS:=tr_iff.1 h0
 have k1:=hk.1
 have k2:k≤3:=by omega
 have hm:=hS.mid
 have hf:=hS.fs
 have hsf:=SmF.of hf
 have hn:=hf.ni
 obtain ⟨a,rfl⟩:=Int.eq_ofNat_of_zero_le hk.1
 have hal:a < s.procs.length:=by rw [hS.np];omega
 have hpa:procAt s a=s.procs[a]:=by simp [procAt,hal]
 obtain ⟨hcr,hfl,-⟩:=hm.proc _ (List.getElem_mem hal)
 have hcl:=cred_len hcr
 have ci:=fun x y=>spec_l16Free x y s.procs[a] (by rw [hfl];decide)
 have hfr:=freeFd_range (l:=s.procs[a].files) (j:=0)
 unfold openD at hA
 rw [hpa] at hA
 by_cases hfb:flagsB flags=true
 rotate_left
 ·have hfb':flagsB flags=false:=by simpa using hfb
  rw [if_pos hfb'] at hA
  subst hA
  (try simp -implicitDefEqProofs (disch:=first|exact dd|fail)[Tryz.f58,h0,k1,k2,hfb']);(repeat'((with_reducible first|(refine Br.out ?_ ?_<;>intro h<;>(try(have h0:=h;simp only[bH]at h)))|refine AC_snd (c0 _ _ _ _) ?_|refine AC_snd (c1 _ _ _ _) ?_|refine AC_snd (spec_l01In _ _ _) ?_|refine AC_snd (cf) ?_|fail)<;>(try simp -implicitDefEqProofs (disch:=first|exact dd|fail)[Tryz.f58,h0,k1,k2,hfb'])))
 rw [if_neg (by simp [hfb])] at hA
 generalize freeFd 0 s.procs[a].files=fd at *
 by_cases hfd:fd < 0
 ·rw [if_pos hfd] at hA
  subst hA
  (try simp -implicitDefEqProofs (disch:=first|exact dd|fail)[Tryz.f58,h0,k1,k2,hfb,hal,hfd,cProc]);(repeat'((with_reducible first|(refine Br.out ?_ ?_<;>intro h<;>(try(have h0:=h;simp only[bH]at h)))|refine AC_snd (c0 _ _ _ _) ?_|refine AC_snd (c1 _ _ _ _) ?_|refine AC_snd (spec_l01In _ _ _) ?_|refine AC_snd (cf) ?_|refine AC_snd (ci _ _) ?_|fail)<;>(try simp -implicitDefEqProofs (disch:=first|exact dd|fail)[Tryz.f58,h0,k1,k2,hfb,hal,hfd,cProc])))
 rw [if_neg hfd] at hA
 obtain ⟨b,rfl⟩:=Int.eq_ofNat_of_zero_le (Int.not_lt.1 hfd)
 have hbl:b < s.procs[a].files.length:=by
  rcases hfr with h1 | h1
  ·omega
  ·omega
 have cres:=fun x y z w=>spec_ResolvePath x y z w s.fs s.procs[a].cred p hsf hcl hp
 have hok:=resolveF_ok (f:=s.fs) (c:=s.procs[a].cred) (p:=p)
 have cmk:=fun x y z w=>spec_NewObject x y z w s.fs s.procs[a].cred p 1 mode hsf hcl hp
 have hmk:=makeO_has (f:=s.fs) (c:=s.procs[a].cred) (p:=p) (kind:=1) (mode:=mode)
 have cmay:=fun x y z w i v hi=>spec_l11May x y z w s.fs s.procs[a].cred i v hn hi hsf hcl
 simp only [Int.toNat_natCast] at hA
 generalize resolveF s.fs s.procs[a].cred p=r at *
 generalize makeO s.fs s.procs[a].cred p 1 mode=m at *
 obtain ⟨i,e⟩:=r
 obtain ⟨mf,mi,me⟩:=m
 have hrow:=fun (o:DOpen)=>(show (s.procs.map cProc).set a (cProc ⟨s.procs[a].cred,s.procs[a].files.set b o⟩)=(setOpen s.procs a b o).map cProc by rw [setOpen_at hal];exact List.map_set.symm)
 have hpl:=fun (o:DOpen)=>setOpen_len (ps:=s.procs) (k:=a) (fd:=b) (o:=o)
 have fin:∀ (g:DFS) (i:Int),IsFS g→hasI g i=true→∃ x:Nat,i=x∧x < g.inodes.length∧∃ g2 g3:DFS,(∀ x y z,Snd Tryz.prog 138 [fFS x y z g, .int .i64 i, .int .i64 0] (rFS g2) [.unk, .unk, .unk])∧Snd Tryz.prog 137 [rFS g2, .int .i64 i] (rFS g3) [.unk, .unk]∧touchF (resizeS g i 0) i=g3:=by
  intro g i hg hi
  have hl:=hasI_lt hi
  have c1:=fun x y z=>spec_l09Resize x y z g i 0 (SmF.of hg) hg hi (by decide)
  have hk:=resizeS_keeps (f:=g) (i:=i) (Z:=0) ⟨hl.1,by rw [hg.ni];omega⟩
  obtain ⟨x,rfl⟩:=Int.eq_ofNat_of_zero_le hl.1
  have hx:x < g.inodes.length:=by rw [hg.ni];omega
  exact ⟨x,rfl,hx,resizeS g x 0,touchF (resizeS g x 0) x,c1,spec_l12Touch _ x (by rw [hk.nl];exact hx),rfl⟩
 by_cases h3:e=3∧¬ iAnd flags 8=0
 ·rw [if_pos h3] at hA
  obtain ⟨rfl,h8⟩:=h3
  by_cases hme:me=0
  rotate_left
  ·simp [hme] at hA
   subst hA
   (try simp -implicitDefEqProofs (disch:=first|exact dd|fail)[Tryz.f58,h0,k1,k2,hfb,hal,h8,hme,cProc]);(repeat'((with_reducible first|(refine Br.out ?_ ?_<;>intro h<;>(try(have h0:=h;simp only[bH]at h)))|refine AC_snd (c0 _ _ _ _) ?_|refine AC_snd (c1 _ _ _ _) ?_|refine AC_snd (spec_l01In _ _ _) ?_|refine AC_snd (cf) ?_|refine AC_snd (ci _ _) ?_|refine AC_snd (cres _ _ _ _) ?_|refine AC_snd (cmk _ _ _ _) ?_|fail)<;>(try simp -implicitDefEqProofs (disch:=first|exact dd|fail)[Tryz.f58,h0,k1,k2,hfb,hal,h8,hme,cProc])))
  subst hme
  have hmk:=hmk rfl
  simp only at hmk hA
  rw [if_pos trivial] at hA
  obtain ⟨x,rfl,hx,g2,g3,cz,ct,ht⟩:=fin mf mi hmk.1 hmk.2
  unfold openT at hA
  rw [ht] at hA
  have hrow:=hrow ⟨x,0,flags⟩
  have hpl:=hpl ⟨x,0,flags⟩
  generalize setOpen s.procs a b ⟨x,0,flags⟩=Q at *
  simp only [cProc,cOpen,List.map_set] at hrow
  by_cases h16:iAnd flags 16=0
  ·simp [h16] at hA
   subst hA
   (try simp -implicitDefEqProofs (disch:=first|exact dd|fail)[Tryz.f58,h0,k1,k2,hfb,hal,hbl,h8,h16,hrow,hpl,cProc,cOpen]);(repeat'((with_reducible first|(refine Br.out ?_ ?_<;>intro h<;>(try(have h0:=h;simp only[bH]at h)))|refine AC_snd (c0 _ _ _ _) ?_|refine AC_snd (c1 _ _ _ _) ?_|refine AC_snd (spec_l01In _ _ _) ?_|refine AC_snd (cf) ?_|refine AC_snd (ci _ _) ?_|refine AC_snd (cres _ _ _ _) ?_|refine AC_snd (cmk _ _ _ _) ?_|fail)<;>(try simp -implicitDefEqProofs (disch:=first|exact dd|fail)[Tryz.f58,h0,k1,k2,hfb,hal,hbl,h8,h16,hrow,hpl,cProc,cOpen])))
  ·simp [h16] at hA
   subst hA
   (try simp -implicitDefEqProofs (disch:=first|exact dd|fail)[Tryz.f58,h0,k1,k2,hfb,hal,hbl,h8,h16,hrow,hpl,cProc,cOpen]);(repeat'((with_reducible first|(refine Br.out ?_ ?_<;>intro h<;>(try(have h0:=h;simp only[bH]at h)))|refine AC_snd (c0 _ _ _ _) ?_|refine AC_snd (c1 _ _ _ _) ?_|refine AC_snd (spec_l01In _ _ _) ?_|refine AC_snd (cf) ?_|refine AC_snd (ci _ _) ?_|refine AC_snd (cres _ _ _ _) ?_|refine AC_snd (cmk _ _ _ _) ?_|refine AC_snd (cz _ _ _) ?_|refine AC_snd (ct) ?_|fail)<;>(try simp -implicitDefEqProofs (disch:=first|exact dd|fail)[Tryz.f58,h0,k1,k2,hfb,hal,hbl,h8,h16,hrow,hpl,cProc,cOpen])))
 rw [if_neg h3] at hA
 have h38:¬ e=3∨iAnd flags 8=0:=by
  by_cases q:e=3
  ·right
   exact Classical.not_not.1 fun q2=>h3 ⟨q,q2⟩
  ·exact .inl q
 by_cases he:e=0
 rotate_left
 ·simp [he] at hA
  subst hA
  rcases h38 with h38 | h38
  ·(try simp -implicitDefEqProofs (disch:=first|exact dd|fail)[Tryz.f58,h0,k1,k2,hfb,hal,h38,he,cProc]);(repeat'((with_reducible first|(refine Br.out ?_ ?_<;>intro h<;>(try(have h0:=h;simp only[bH]at h)))|refine AC_snd (c0 _ _ _ _) ?_|refine AC_snd (c1 _ _ _ _) ?_|refine AC_snd (spec_l01In _ _ _) ?_|refine AC_snd (cf) ?_|refine AC_snd (ci _ _) ?_|refine AC_snd (cres _ _ _ _) ?_|fail)<;>(try simp -implicitDefEqProofs (disch:=first|exact dd|fail)[Tryz.f58,h0,k1,k2,hfb,hal,h38,he,cProc])))
  ·(try simp -implicitDefEqProofs (disch:=first|exact dd|fail)[Tryz.f58,h0,k1,k2,hfb,hal,h38,he,cProc]);(repeat'((with_reducible first|(refine Br.out ?_ ?_<;>intro h<;>(try(have h0:=h;simp only[bH]at h)))|refine AC_snd (c0 _ _ _ _) ?_|refine AC_snd (c1 _ _ _ _) ?_|refine AC_snd (spec_l01In _ _ _) ?_|refine AC_snd (cf) ?_|refine AC_snd (ci _ _) ?_|refine AC_snd (cres _ _ _ _) ?_|fail)<;>(try simp -implicitDefEqProofs (disch:=first|exact dd|fail)[Tryz.f58,h0,k1,k2,hfb,hal,h38,he,cProc])))
 subst he
 have h1:=hok rfl
 simp only [ne_eq,not_true_eq_false,if_false] at hA h1
 have hil:=hasI_lt h1.2.2
 have cmay:=fun x y z w v=>cmay x y z w i v h1.2.2
 obtain ⟨x,rfl,hx,g2,g3,cz,ct,ht⟩:=fin s.fs i hf h1.2.2
 have hx20:x < 20:=by omega
 have hdk:isDirI s.fs x=decide (s.fs.inodes[x].kind=2):=by
  rw [isDirI_kind hx20,inodeAt_nat hx]
 by_cases hd:isDirI s.fs x=true
 ·rw [if_pos hd] at hA
  subst hA
  rw [hdk] at hd
  have hd2:s.fs.inodes[x].kind=2:=by simpa using hd
  (try simp -implicitDefEqProofs (disch:=first|exact dd|fail)[Tryz.f58,h0,k1,k2,hfb,hal,hx,hd2,cProc,cInode]);(repeat'((with_reducible first|(refine Br.out ?_ ?_<;>intro h<;>(try(have h0:=h;simp only[bH]at h)))|refine AC_snd (c0 _ _ _ _) ?_|refine AC_snd (c1 _ _ _ _) ?_|refine AC_snd (spec_l01In _ _ _) ?_|refine AC_snd (cf) ?_|refine AC_snd (ci _ _) ?_|refine AC_snd (cres _ _ _ _) ?_|fail)<;>(try simp -implicitDefEqProofs (disch:=first|exact dd|fail)[Tryz.f58,h0,k1,k2,hfb,hal,hx,hd2,cProc,cInode])))
 rw [if_neg hd] at hA
 rw [hdk] at hd
 have hd2:¬ s.fs.inodes[x].kind=2:=by simpa using hd
 by_cases hmy:mayI s.fs s.procs[a].cred x (iAnd flags 6)=true
 rotate_left
 ·have hmy':mayI s.fs s.procs[a].cred x (iAnd flags 6)=false:=by simpa using hmy
  rw [if_pos hmy'] at hA
  subst hA
  (try simp -implicitDefEqProofs (disch:=first|exact dd|fail)[Tryz.f58,h0,k1,k2,hfb,hal,hx,hd2,hmy',cProc,cInode]);(repeat'((with_reducible first|(refine Br.out ?_ ?_<;>intro h<;>(try(have h0:=h;simp only[bH]at h)))|refine AC_snd (c0 _ _ _ _) ?_|refine AC_snd (c1 _ _ _ _) ?_|refine AC_snd (spec_l01In _ _ _) ?_|refine AC_snd (cf) ?_|refine AC_snd (ci _ _) ?_|refine AC_snd (cres _ _ _ _) ?_|refine AC_snd (cmay _ _ _ _ _) ?_|fail)<;>(try simp -implicitDefEqProofs (disch:=first|exact dd|fail)[Tryz.f58,h0,k1,k2,hfb,hal,hx,hd2,hmy',cProc,cInode])))
 rw [if_neg (by simp [hmy])] at hA
 unfold openT at hA
 rw [ht] at hA
 have hrow:=hrow ⟨x,0,flags⟩
 have hpl:=hpl ⟨x,0,flags⟩
 generalize setOpen s.procs a b ⟨x,0,flags⟩=Q at *
 simp only [cProc,cOpen,List.map_set] at hrow
 by_cases h16:iAnd flags 16=0
 ·simp [h16] at hA
  subst hA
  (try simp -implicitDefEqProofs (disch:=first|exact dd|fail)[Tryz.f58,h0,k1,k2,hfb,hal,hbl,hx,hd2,hmy,h16,hrow,hpl,cProc,cOpen,cInode]);(repeat'((with_reducible first|(refine Br.out ?_ ?_<;>intro h<;>(try(have h0:=h;simp only[bH]at h)))|refine AC_snd (c0 _ _ _ _) ?_|refine AC_snd (c1 _ _ _ _) ?_|refine AC_snd (spec_l01In _ _ _) ?_|refine AC_snd (cf) ?_|refine AC_snd (ci _ _) ?_|refine AC_snd (cres _ _ _ _) ?_|refine AC_snd (cmay _ _ _ _ _) ?_|fail)<;>(try simp -implicitDefEqProofs (disch:=first|exact dd|fail)[Tryz.f58,h0,k1,k2,hfb,hal,hbl,hx,hd2,hmy,h16,hrow,hpl,cProc,cOpen,cInode])))
 ·simp [h16] at hA
  subst hA
  (try simp -implicitDefEqProofs (disch:=first|exact dd|fail)[Tryz.f58,h0,k1,k2,hfb,hal,hbl,hx,hd2,hmy,h16,hrow,hpl,cProc,cOpen,cInode]);(repeat'((with_reducible first|(refine Br.out ?_ ?_<;>intro h<;>(try(have h0:=h;simp only[bH]at h)))|refine AC_snd (c0 _ _ _ _) ?_|refine AC_snd (c1 _ _ _ _) ?_|refine AC_snd (spec_l01In _ _ _) ?_|refine AC_snd (cf) ?_|refine AC_snd (ci _ _) ?_|refine AC_snd (cres _ _ _ _) ?_|refine AC_snd (cmay _ _ _ _ _) ?_|refine AC_snd (cz _ _ _) ?_|refine AC_snd (ct) ?_|fail)<;>(try simp -implicitDefEqProofs (disch:=first|exact dd|fail)[Tryz.f58,h0,k1,k2,hfb,hal,hbl,hx,hd2,hmy,h16,hrow,hpl,cProc,cOpen,cInode])))
end Go.Proofs.YtgopfdninbknpaaGreat
