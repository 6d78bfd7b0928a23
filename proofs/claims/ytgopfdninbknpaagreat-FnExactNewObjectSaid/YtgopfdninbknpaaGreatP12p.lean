import Derived.Test.YtgopfdninbknpaaGreatP12o
namespace Go.Proofs.YtgopfdninbknpaaGreat
open Go.Fw
set_option linter.unusedVariables false
set_option linter.unusedSimpArgs false
set_option maxHeartbeats 1000000
set_option maxRecDepth 8000
theorem spec_l12Make (n1 n2 n3 n4:Option Bool) (f:DFS) (c:DCred) (d:Int) (s:Str) (kind mode:Int) (hok:MakeOk f c kind mode) (hd:hasI f d=true) (hs:SmF f) (hc:c.groups.length≤1048576) (hl:s.length≤1048576):Snd Tryz.prog 70 [fFS n1 n2 n3 f,fCred n4 c, .int .i64 d, .str s, .int .i64 kind, .int .i64 mode] (.tup [rFS (makeF f c d s kind mode).1, .int .i64 (makeF f c d s kind mode).2.1, .int .i64 (makeF f c d s kind mode).2.2]) [.unk, .unk, .unk, .unk, .unk, .unk]:=Runs.snd (M:=M) (c:=⟨6,[6,7,12,13,14,16,17,18,19,20,21,22,23,31,38,49,73,101],[],[]⟩) tok ks mixed Tryz.func70 (p := []) (by kernel_rfl) (by rfl) (by rfl) <| by
 have hf:=hok.fs
 have hn:=hf.ni
 have hdl:=hasI_lt hd
 have cp:=fun a b d=>spec_l08Copy a b d f hs
 have c3:=fun a b e=>spec_l10Find a b e f d s hf ⟨hdl.1,hdl.2.1⟩
 have c5:=fun a b e g=>spec_l11May a b e g f c d 3 hn hd hs hc
 have c6:=fun a b e=>spec_l08NextInode a b e f c.uid hn hok.cr.2.1 hf.nq
 have hni:=nextI_ok (f:=f) hok.cr.2.1
 obtain ⟨A,hA⟩:∃ A,A=makeF f c d s kind mode:=⟨_,rfl⟩
 rw [←hA]
 unfold makeF at hA
 generalize hfe:findE (entriesI f d) s=fe at *
 obtain ⟨fx,fb⟩:=fe
 cases fb with
 | true=>
  rw [if_pos rfl] at hA
  subst hA
  (try simp -implicitDefEqProofs (disch:=first|exact dd|fail)[Tryz.f70]);(repeat'((with_reducible first|(refine Br.out ?_ ?_<;>intro h<;>(try(have h0:=h;simp only[bH]at h)))|refine AC_snd (c3 _ _ _) ?_|refine AC_snd (cp _ _ _) ?_|fail)<;>(try simp -implicitDefEqProofs (disch:=first|exact dd|fail)[Tryz.f70])))
 | false=>
 rw [if_neg (by simp)] at hA
 by_cases h4:mayI f c d 3=true
 rotate_left
 ·have h4':mayI f c d 3=false:=by simpa using h4
  rw [if_pos h4'] at hA
  subst hA
  (try simp -implicitDefEqProofs (disch:=first|exact dd|fail)[Tryz.f70,h4']);(repeat'((with_reducible first|(refine Br.out ?_ ?_<;>intro h<;>(try(have h0:=h;simp only[bH]at h)))|refine AC_snd (c3 _ _ _) ?_|refine AC_snd (c5 _ _ _ _) ?_|refine AC_snd (cp _ _ _) ?_|fail)<;>(try simp -implicitDefEqProofs (disch:=first|exact dd|fail)[Tryz.f70,h4'])))
 rw [if_neg (by simp [h4])] at hA
 generalize nextI f c.uid=nx at *
 obtain ⟨k,e3⟩:=nx
 by_cases he3:e3=0
 rotate_left
 ·simp [he3] at hA
  subst hA
  (try simp -implicitDefEqProofs (disch:=first|exact dd|fail)[Tryz.f70,h4,he3]);(repeat'((with_reducible first|(refine Br.out ?_ ?_<;>intro h<;>(try(have h0:=h;simp only[bH]at h)))|refine AC_snd (c3 _ _ _) ?_|refine AC_snd (c5 _ _ _ _) ?_|refine AC_snd (c6 _ _ _) ?_|refine AC_snd (cp _ _ _) ?_|fail)<;>(try simp -implicitDefEqProofs (disch:=first|exact dd|fail)[Tryz.f70,h4,he3])))
 subst he3
 obtain ⟨i,hq1,hq2,hk⟩:=hni rfl
 simp only at hq1
 subst hq1
 simp only [ne_eq,not_true_eq_false,if_false] at hA
 obtain ⟨a,rfl⟩:=Int.eq_ofNat_of_zero_le hdl.1
 have hd1:a < f.inodes.length:=by omega
 have hi1:i < f.inodes.length:=by omega
 have hir:(0:Int)≤(i:Int)∧(i:Int) < 20:=by omega
 have hne:=free_ne hd hir hk
 have hN:=newN_ok hf hok.cr hd hok.kd hok.md hok.m2
 have hg1:=hf.fresh hir hk hN rfl
 have hgd:hasI (setN f i (newN f c a kind mode)) a=true:=by rw [fresh_has hf hir hne];exact hd
 have hgd1:a < (setN f i (newN f c a kind mode)).inodes.length:=by rw [hg1.ni];omega
 have hkp:=addF_keeps (f:=setN f i (newN f c a kind mode)) (d:=a) (s:=s) (i:=i) ⟨by omega,by simpa using hgd1⟩
 have c7:=fun x y z=>spec_l10Add x y z (setN f i (newN f c a kind mode)) a i s (SmF.of hg1) hg1 hgd hl
 have cg:=fun x y z g=>spec_l12Gid x y z g f c a hn ⟨hdl.1,hdl.2.1⟩
 have hda:(inodeAt f a).dflt.length≤1048576:=by
  have:=(SmF.of hf).inode _ (List.getElem_mem hd1)
  rw [inodeAt_nat hd1]
  exact this.dflt
 simp only [newOwner_eq] at cg
 have c8:=fun x=>spec_l05Copy x (inodeAt f a).dflt hda
 have c9:=spec_l12Touch (addF (setN f i (newN f c a kind mode)) a s i).1 a (by rw [hkp.nl];exact hgd1)
 generalize touchF (addF (setN f i (newN f c a kind mode)) a s i).1 a=g at *
 generalize addF (setN f i (newN f c a kind mode)) a s i=ad at *
 obtain ⟨g0,e⟩:=ad
 simp only at hA c7 c9
 have hm:∀ (L:List DInode) (k:Nat) (n:DInode),(L.map cInode).set k (cInode n)=(L.set k n).map cInode:=fun L k n=>List.map_set.symm
 generalize hNN:newN f c a kind mode=N at *
 have hr1:=hm f.inodes i N
 have hLl:(f.inodes.set i N).length=f.inodes.length:=List.length_set
 simp only [setN,Int.toNat_natCast] at c7
 clear hg1 hgd hgd1 hkp hN
 generalize f.inodes.set i N=L at *
 have hLt:List.take f.inodes.length (L.map cInode)=L.map cInode:=List.take_of_length_le (by simp;omega)
 rw [inodeAt_nat hd1] at c8
 unfold newN at hNN
 rw [inodeAt_nat hd1] at hNN
 subst hNN
 simp only [cInode,List.map_nil] at hr1
 clear hm
 by_cases he:e=0
 ·subst he
  simp only [if_true] at hA c7
  subst hA
  rcases hok.kd with rfl | rfl
  ·simp only [show ¬ (1:Int)=2 by decide,if_false,List.map_nil] at hr1
   (try simp -implicitDefEqProofs (disch:=first|exact dd|fail)[Tryz.f70,h4,hi1,hd1,hLl,hLt,hr1,cInode]);(repeat'((with_reducible first|(refine Br.out ?_ ?_<;>intro h<;>(try(have h0:=h;simp only[bH]at h)))|refine AC_snd (c3 _ _ _) ?_|refine AC_snd (c5 _ _ _ _) ?_|refine AC_snd (c6 _ _ _) ?_|refine AC_snd (cg _ _ _ _) ?_|refine AC_snd (c8 _) ?_|refine AC_snd (cp _ _ _) ?_|refine AC_snd (c7 _ _ _) ?_|refine AC_snd (c9) ?_|fail)<;>(try simp -implicitDefEqProofs (disch:=first|exact dd|fail)[Tryz.f70,h4,hi1,hd1,hLl,hLt,hr1,cInode])))
  ·simp only [if_true] at hr1
   (try simp -implicitDefEqProofs (disch:=first|exact dd|fail)[Tryz.f70,h4,hi1,hd1,hLl,hLt,hr1,cInode]);(repeat'((with_reducible first|(refine Br.out ?_ ?_<;>intro h<;>(try(have h0:=h;simp only[bH]at h)))|refine AC_snd (c3 _ _ _) ?_|refine AC_snd (c5 _ _ _ _) ?_|refine AC_snd (c6 _ _ _) ?_|refine AC_snd (cg _ _ _ _) ?_|refine AC_snd (c8 _) ?_|refine AC_snd (cp _ _ _) ?_|refine AC_snd (c7 _ _ _) ?_|refine AC_snd (c9) ?_|fail)<;>(try simp -implicitDefEqProofs (disch:=first|exact dd|fail)[Tryz.f70,h4,hi1,hd1,hLl,hLt,hr1,cInode])))
 ·simp only [he,if_false] at hA c7
  subst hA
  rcases hok.kd with rfl | rfl
  ·simp only [show ¬ (1:Int)=2 by decide,if_false,List.map_nil] at hr1
   (try simp -implicitDefEqProofs (disch:=first|exact dd|fail)[Tryz.f70,h4,hi1,hd1,hLl,hLt,hr1,he,cInode]);(repeat'((with_reducible first|(refine Br.out ?_ ?_<;>intro h<;>(try(have h0:=h;simp only[bH]at h)))|refine AC_snd (c3 _ _ _) ?_|refine AC_snd (c5 _ _ _ _) ?_|refine AC_snd (c6 _ _ _) ?_|refine AC_snd (cg _ _ _ _) ?_|refine AC_snd (c8 _) ?_|refine AC_snd (cp _ _ _) ?_|refine AC_snd (c7 _ _ _) ?_|fail)<;>(try simp -implicitDefEqProofs (disch:=first|exact dd|fail)[Tryz.f70,h4,hi1,hd1,hLl,hLt,hr1,he,cInode])))
  ·simp only [if_true] at hr1
   (try simp -implicitDefEqProofs (disch:=first|exact dd|fail)[Tryz.f70,h4,hi1,hd1,hLl,hLt,hr1,he,cInode]);(repeat'((with_reducible first|(refine Br.out ?_ ?_<;>intro h<;>(try(have h0:=h;simp only[bH]at h)))|refine AC_snd (c3 _ _ _) ?_|refine AC_snd (c5 _ _ _ _) ?_|refine AC_snd (c6 _ _ _) ?_|refine AC_snd (cg _ _ _ _) ?_|refine AC_snd (c8 _) ?_|refine AC_snd (cp _ _ _) ?_|refine AC_snd (c7 _ _ _) ?_|fail)<;>(try simp -implicitDefEqProofs (disch:=first|exact dd|fail)[Tryz.f70,h4,hi1,hd1,hLl,hLt,hr1,he,cInode])))
theorem spec_NewObject (n1 n2 n3 n4:Option Bool) (f:DFS) (c:DCred) (p:Str) (kind mode:Int) (hs:SmF f) (hc:c.groups.length≤1048576) (hp:p.length≤1048576):Snd Tryz.prog 17 [fFS n1 n2 n3 f,fCred n4 c, .str p, .int .i64 kind, .int .i64 mode] (.tup [rFS (makeO f c p kind mode).1, .int .i64 (makeO f c p kind mode).2.1, .int .i64 (makeO f c p kind mode).2.2]) [.unk, .unk, .unk, .unk, .unk]:=Runs.snd (M:=M) (c:=⟨5,[5,6,10,11,12,13,14,15,47,59],[],[]⟩) tok ks mixed Tryz.func17 (p := []) (by kernel_rfl) (by rfl) (by rfl) <| by
 have c2:=fun a b d e=>spec_ResolveParent a b d e f c p hs hc hp
 have hok2:=resolveQ_ok (f:=f) (c:=c) (p:=p)
 have cp:=fun a b d=>spec_l08Copy a b d f hs
 have c0:=fun a b d=>spec_IsFS a b d f hs
 have c00:=fun a=>spec_IsCred a c hc
 obtain ⟨A,hA⟩:∃ A,A=makeO f c p kind mode:=⟨_,rfl⟩
 rw [←hA]
 unfold makeO at hA
 by_cases hok:MakeOk f c kind mode
 rotate_left
 ·rw [if_pos (tr_no hok)] at hA
  subst hA
  have hno:¬ (isFS f=true∧isCred c=true∧(kind=1∨kind=2)∧IsMode mode∧iAnd mode 1024=0∧(kind=1→iAnd mode 512=0)):=fun ⟨a1,a2,a3,a4,a5,a6⟩=>hok ⟨tr_iff.1 a1,tr_iff.1 a2,a3,a4,a5,a6⟩
  (try simp -implicitDefEqProofs (disch:=first|exact dd|fail)[Tryz.f17]);(repeat'((with_reducible first|(refine Br.out ?_ ?_<;>intro h<;>(try(have h0:=h;simp only[bH]at h)))|refine AC_snd (c0 _ _ _) ?_|refine AC_snd (c00 _) ?_|refine AC_snd (spec_l01In _ _ _) ?_|refine AC_snd (spec_l06Mode _) ?_|refine AC_snd (cp _ _ _) ?_|fail)<;>(try simp -implicitDefEqProofs (disch:=first|exact dd|fail)[Tryz.f17])))
  all_goals (exfalso;refine hno ⟨by assumption,by assumption,by omega,by assumption,by assumption,fun e => ?_⟩;first | assumption | omega)
 have f1:=tr_yes hok.fs
 have f2:=tr_yes hok.cr
 have f3:=hok.kd
 have f4:=hok.md
 have f5:=hok.m1
 have f6:=hok.m2
 rw [if_neg (by rw [tr_yes hok];simp)] at hA
 have c10:=fun a b d e y s hd hl=>spec_l12Make a b d e f c y s kind mode hok hd hs hc hl
 generalize resolveQ f c p=w at *
 obtain ⟨y,s,e2⟩:=w
 by_cases he2:e2=0
 rotate_left
 ·simp [he2] at hA
  subst hA
  rcases f3 with rfl | rfl
  ·(try simp -implicitDefEqProofs (disch:=first|exact dd|fail)[Tryz.f17,f1,f2,f4,f5,f6 rfl,he2]);(repeat'((with_reducible first|(refine Br.out ?_ ?_<;>intro h<;>(try(have h0:=h;simp only[bH]at h)))|refine AC_snd (c0 _ _ _) ?_|refine AC_snd (c00 _) ?_|refine AC_snd (spec_l01In _ _ _) ?_|refine AC_snd (spec_l06Mode _) ?_|refine AC_snd (c2 _ _ _ _) ?_|refine AC_snd (cp _ _ _) ?_|fail)<;>(try simp -implicitDefEqProofs (disch:=first|exact dd|fail)[Tryz.f17,f1,f2,f4,f5,f6 rfl,he2])))
  ·(try simp -implicitDefEqProofs (disch:=first|exact dd|fail)[Tryz.f17,f1,f2,f4,f5,he2]);(repeat'((with_reducible first|(refine Br.out ?_ ?_<;>intro h<;>(try(have h0:=h;simp only[bH]at h)))|refine AC_snd (c0 _ _ _) ?_|refine AC_snd (c00 _) ?_|refine AC_snd (spec_l01In _ _ _) ?_|refine AC_snd (spec_l06Mode _) ?_|refine AC_snd (c2 _ _ _ _) ?_|refine AC_snd (cp _ _ _) ?_|fail)<;>(try simp -implicitDefEqProofs (disch:=first|exact dd|fail)[Tryz.f17,f1,f2,f4,f5,he2])))
 subst he2
 simp only [ne_eq,not_true_eq_false,if_false] at hA
 have h2:=hok2 rfl
 simp only at h2
 have hdu:=isDir_use h2.2.2.1
 have hsl:=nameOK_len h2.2.2.2
 have c10:=fun a b d e=>c10 a b d e y s hdu (by omega)
 rw [←hA] at c10
 rcases f3 with rfl | rfl
 ·(try simp -implicitDefEqProofs (disch:=first|exact dd|fail)[Tryz.f17,f1,f2,f4,f5,f6 rfl]);(repeat'((with_reducible first|(refine Br.out ?_ ?_<;>intro h<;>(try(have h0:=h;simp only[bH]at h)))|refine AC_snd (c0 _ _ _) ?_|refine AC_snd (c00 _) ?_|refine AC_snd (spec_l01In _ _ _) ?_|refine AC_snd (spec_l06Mode _) ?_|refine AC_snd (c2 _ _ _ _) ?_|refine AC_snd (c10 _ _ _ _) ?_|fail)<;>(try simp -implicitDefEqProofs (disch:=first|exact dd|fail)[Tryz.f17,f1,f2,f4,f5,f6 rfl])))
 ·(try simp -implicitDefEqProofs (disch:=first|exact dd|fail)[Tryz.f17,f1,f2,f4,f5]);(repeat'((with_reducible first|(refine Br.out ?_ ?_<;>intro h<;>(try(have h0:=h;simp only[bH]at h)))|refine AC_snd (c0 _ _ _) ?_|refine AC_snd (c00 _) ?_|refine AC_snd (spec_l01In _ _ _) ?_|refine AC_snd (spec_l06Mode _) ?_|refine AC_snd (c2 _ _ _ _) ?_|refine AC_snd (c10 _ _ _ _) ?_|fail)<;>(try simp -implicitDefEqProofs (disch:=first|exact dd|fail)[Tryz.f17,f1,f2,f4,f5])))
theorem spec_CreateFile (n1 n2 n3 n4:Option Bool) (f:DFS) (c:DCred) (p:Str) (mode:Int) (hs:SmF f) (hc:c.groups.length≤1048576) (hp:p.length≤1048576):Snd Tryz.prog 28 [fFS n1 n2 n3 f,fCred n4 c, .str p, .int .i64 mode] (.tup [rFS (makeO f c p 1 mode).1, .int .i64 (makeO f c p 1 mode).2.2]) [.unk, .unk, .unk, .unk]:=Runs.snd (M:=M) (c:=⟨4,[4,5,8,9,10,12],[],[]⟩) tok ks mixed Tryz.func28 (p := []) (by kernel_rfl) (by rfl) (by rfl) <| by
 have c1:=fun a b d e=>spec_NewObject a b d e f c p 1 mode hs hc hp
 generalize makeO f c p 1 mode=r at *
 (try simp -implicitDefEqProofs (disch:=first|exact dd|fail)[Tryz.f28]);(repeat'((with_reducible first|(refine Br.out ?_ ?_<;>intro h<;>(try(have h0:=h;simp only[bH]at h)))|refine AC_snd (c1 _ _ _ _) ?_|fail)<;>(try simp -implicitDefEqProofs (disch:=first|exact dd|fail)[Tryz.f28])))
theorem spec_CreateDir (n1 n2 n3 n4:Option Bool) (f:DFS) (c:DCred) (p:Str) (mode:Int) (hs:SmF f) (hc:c.groups.length≤1048576) (hp:p.length≤1048576):Snd Tryz.prog 26 [fFS n1 n2 n3 f,fCred n4 c, .str p, .int .i64 mode] (.tup [rFS (makeO f c p 2 mode).1, .int .i64 (makeO f c p 2 mode).2.2]) [.unk, .unk, .unk, .unk]:=Runs.snd (M:=M) (c:=⟨4,[4,5,8,9,10,12],[],[]⟩) tok ks mixed Tryz.func26 (p := []) (by kernel_rfl) (by rfl) (by rfl) <| by
 have c1:=fun a b d e=>spec_NewObject a b d e f c p 2 mode hs hc hp
 generalize makeO f c p 2 mode=r at *
 (try simp -implicitDefEqProofs (disch:=first|exact dd|fail)[Tryz.f26]);(repeat'((with_reducible first|(refine Br.out ?_ ?_<;>intro h<;>(try(have h0:=h;simp only[bH]at h)))|refine AC_snd (c1 _ _ _ _) ?_|fail)<;>(try simp -implicitDefEqProofs (disch:=first|exact dd|fail)[Tryz.f26])))
end Go.Proofs.YtgopfdninbknpaaGreat
