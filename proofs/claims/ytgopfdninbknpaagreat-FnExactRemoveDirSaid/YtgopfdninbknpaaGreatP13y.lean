import Derived.Test.YtgopfdninbknpaaGreatP13x
namespace Go.Proofs.YtgopfdninbknpaaGreat
open Go.Fw
set_option linter.unusedVariables false
set_option linter.unusedSimpArgs false
set_option maxHeartbeats 1000000
set_option maxRecDepth 8000
theorem spec_l13Unlink (n5:Option Bool) (f:DFS) (i:Nat) (busy:List Int) (hf:IsFS f) (hi:hasI f i=true) (hb:busy.length≤1048576):Snd Tryz.prog 178 [rFS f, .int .i64 i, .frz 1 n5 (busy.map ci)] (rFS (unlinkF f i busy)) [.unk, .unk, .unk]:=Runs.snd (M:=M) (c:=⟨3,[3,6,7,35],[],[]⟩) tok ks mixed Tryz.func178 (p := [0]) (by kernel_rfl) (by rfl) (by rfl) <| by
 have hil:=hasI_lt hi
 have hn:=hf.ni
 have hiL:i < f.inodes.length:=by omega
 have hg2:=hf.unlinkS hi
 have hp:=free_pre hg2 (i:=(i:Int)) (by
  have:=hi
  unfold hasI unlinkS at *
  rw [setN_at (by simpa using hiL),if_pos rfl]
  exact this)
 obtain ⟨A,hA⟩:∃ A,A=unlinkF f i busy:=⟨_,rfl⟩
 rw [←hA]
 have hm:∀ (L:List DInode) (k:Nat) (n:DInode),(L.map cInode).set k (cInode n)=(L.set k n).map cInode:=fun L k n=>List.map_set.symm
 have hr2:=hm f.inodes i { f.inodes[i] with links:=max (f.inodes[i].links - 1) 0 }
 have hu:unlinkS f i=⟨f.tick,f.quotas,f.inodes.set i { f.inodes[i] with links:=max (f.inodes[i].links - 1) 0 },f.data⟩:=by
  unfold unlinkS setN
  rw [inodeAt_nat hiL]
  simp
 have hlk:=(hasI_ok hf hi).links
 rw [inodeAt_nat hiL] at hlk
 have hget:(f.inodes.set i { f.inodes[i] with links:=max (f.inodes[i].links - 1) 0 })[i]? = some { f.inodes[i] with links:=max (f.inodes[i].links - 1) 0 }:=by rw [List.getElem?_set_self hiL]
 unfold unlinkF freeB at hA
 rw [hu] at hA hg2 hp
 have hl2:(f.inodes.set i { f.inodes[i] with links:=max (f.inodes[i].links - 1) 0 }).length=f.inodes.length:=List.length_set
 have cm:=spec_l02Max (f.inodes[i].links - 1) 0
 generalize max (f.inodes[i].links - 1) 0=v at *
 generalize f.inodes.set i { f.inodes[i] with links:=v }=L2 at *
 have hi2:i < L2.length:=by omega
 have hLt:List.take f.inodes.length (L2.map cInode)=L2.map cInode:=List.take_of_length_le (by simp;omega)
 have hLi2:L2[i]={ f.inodes[i] with links:=v }:=by rw [List.getElem?_eq_getElem hi2] at hget;exact Option.some.inj hget
 rw [inodeAt_nat (f:=⟨f.tick,f.quotas,L2,f.data⟩) hi2,hLi2] at hA
 simp only at hA
 simp only [cInode] at hr2
 clear hm
 have cc:=fun a=>spec_l02Has a busy (i:Int) hb
 have c3:=fun a b d=>spec_l09Free a b d ⟨f.tick,f.quotas,L2,f.data⟩ i (SmF.of hg2) hp.1 hg2.ni hg2.nd hp.2
 generalize freeF ⟨f.tick,f.quotas,L2,f.data⟩ i=g3 at *
 by_cases hv:v=0
 ·subst hv
  by_cases hi0:(i:Int)=0
  ·simp [hi0] at hA
   subst hA
   (try simp -implicitDefEqProofs (disch:=first|exact dd|fail)[Tryz.f178,hiL,hr2,hl2,hLt,cInode]);(repeat'((with_reducible first|(refine Br.out ?_ ?_<;>intro h<;>(try(have h0:=h;simp only[bH]at h)))|refine AC_snd (cm) ?_|fail)<;>(try simp -implicitDefEqProofs (disch:=first|exact dd|fail)[Tryz.f178,hiL,hr2,hl2,hLt,cInode])))
   all_goals first | (exfalso;omega)
  ·by_cases hbz:(i:Int) ∈ busy
   ·simp [hbz] at hA
    subst hA
    (try simp -implicitDefEqProofs (disch:=first|exact dd|fail)[Tryz.f178,hiL,hr2,hl2,hLt,hi0,show ¬ i=0 by omega,hbz,cInode]);(repeat'((with_reducible first|(refine Br.out ?_ ?_<;>intro h<;>(try(have h0:=h;simp only[bH]at h)))|refine AC_snd (cm) ?_|refine AC_snd (cc _) ?_|fail)<;>(try simp -implicitDefEqProofs (disch:=first|exact dd|fail)[Tryz.f178,hiL,hr2,hl2,hLt,hi0,show ¬ i=0 by omega,hbz,cInode])))
   ·simp [hbz,hi0,show ¬ i=0 by omega] at hA
    subst hA
    (try simp -implicitDefEqProofs (disch:=first|exact dd|fail)[Tryz.f178,hiL,hr2,hl2,hLt,hi0,show ¬ i=0 by omega,hbz,cInode]);(repeat'((with_reducible first|(refine Br.out ?_ ?_<;>intro h<;>(try(have h0:=h;simp only[bH]at h)))|refine AC_snd (cm) ?_|refine AC_snd (cc _) ?_|refine AC_snd (c3 _ _ _) ?_|fail)<;>(try simp -implicitDefEqProofs (disch:=first|exact dd|fail)[Tryz.f178,hiL,hr2,hl2,hLt,hi0,show ¬ i=0 by omega,hbz,cInode])))
 ·simp [hv] at hA
  subst hA
  (try simp -implicitDefEqProofs (disch:=first|exact dd|fail)[Tryz.f178,hiL,hr2,hl2,hLt,hv,cInode]);(repeat'((with_reducible first|(refine Br.out ?_ ?_<;>intro h<;>(try(have h0:=h;simp only[bH]at h)))|refine AC_snd (cm) ?_|fail)<;>(try simp -implicitDefEqProofs (disch:=first|exact dd|fail)[Tryz.f178,hiL,hr2,hl2,hLt,hv,cInode])))
theorem spec_l13Remove (n1 n2 n3 n4 n5:Option Bool) (f:DFS) (c:DCred) (p:Str) (busy:List Int) (kind wrong:Int) (hs:SmF f) (hc:c.groups.length≤1048576) (hp:p.length≤1048576) (hb:busy.length≤1048576) (hw:¬ wrong=0) (hkd:kind≠0):Snd Tryz.prog 96 [fFS n1 n2 n3 f,fCred n4 c, .str p, .frz 1 n5 (busy.map ci), .int .i64 kind, .int .i64 wrong] (.tup [rFS (unmakeO f c p busy kind wrong).1, .int .i64 (unmakeO f c p busy kind wrong).2]) [.unk, .unk, .unk, .unk, .unk, .unk]:=Runs.snd (M:=M) (c:=⟨6,[6,7,12,13,14,15,16,17,18,19,20,28,40,61,71,81,93,104],[],[]⟩) tok ks mixed Tryz.func96 (p := []) (by kernel_rfl) (by rfl) (by rfl) <| by
 have c2:=fun a b d e=>spec_ResolveParent a b d e f c p hs hc hp
 have hok2:=resolveQ_ok (f:=f) (c:=c) (p:=p)
 have cp:=fun a b d=>spec_l08Copy a b d f hs
 have c0:=fun a b d=>spec_IsFS a b d f hs
 have c00:=fun a=>spec_IsCred a c hc
 obtain ⟨A,hA⟩:∃ A,A=unmakeO f c p busy kind wrong:=⟨_,rfl⟩
 rw [←hA]
 unfold unmakeO at hA
 by_cases h0:(isFS f && isCred c)=true
 rotate_left
 ·rw [if_pos (by simpa using h0)] at hA
  subst hA
  (try simp -implicitDefEqProofs (disch:=first|exact dd|fail)[Tryz.f96]);(repeat'((with_reducible first|(refine Br.out ?_ ?_<;>intro h<;>(try(have h0:=h;simp only[bH]at h)))|refine AC_snd (c0 _ _ _) ?_|refine AC_snd (c00 _) ?_|refine AC_snd (cp _ _ _) ?_|fail)<;>(try simp -implicitDefEqProofs (disch:=first|exact dd|fail)[Tryz.f96])))
  all_goals (exfalso;simp_all)
 rw [if_neg (by simp [h0])] at hA
 have h01:=Bool.and_eq_true_iff.1 h0
 generalize resolveQ f c p=w at *
 obtain ⟨y,s,e2⟩:=w
 by_cases he2:e2=0
 rotate_left
 ·simp [he2] at hA
  subst hA
  (try simp -implicitDefEqProofs (disch:=first|exact dd|fail)[Tryz.f96,h01.1,h01.2,he2]);(repeat'((with_reducible first|(refine Br.out ?_ ?_<;>intro h<;>(try(have h0:=h;simp only[bH]at h)))|refine AC_snd (c0 _ _ _) ?_|refine AC_snd (c00 _) ?_|refine AC_snd (c2 _ _ _ _) ?_|refine AC_snd (cp _ _ _) ?_|fail)<;>(try simp -implicitDefEqProofs (disch:=first|exact dd|fail)[Tryz.f96,h01.1,h01.2,he2])))
 subst he2
 simp only [ne_eq,not_true_eq_false,if_false] at hA
 have h2:=hok2 rfl
 simp only at h2
 have hf:=tr_iff.1 h2.1
 have hn:=hf.ni
 have hdu:=isDir_use h2.2.2.1
 have hdl:=hasI_lt hdu
 have c1:=fun a b e=>spec_l10Find a b e f y s hf ⟨hdl.1,hdl.2.1⟩
 have hin:(findE (entriesI f y) s).2=true→_:=findE_in
 unfold removalP at hA
 generalize findE (entriesI f y) s=r at *
 obtain ⟨x,b⟩:=r
 cases b with
 | false=>
  simp at hA
  subst hA
  (try simp -implicitDefEqProofs (disch:=first|exact dd|fail)[Tryz.f96,h01.1,h01.2]);(repeat'((with_reducible first|(refine Br.out ?_ ?_<;>intro h<;>(try(have h0:=h;simp only[bH]at h)))|refine AC_snd (c0 _ _ _) ?_|refine AC_snd (c00 _) ?_|refine AC_snd (c2 _ _ _ _) ?_|refine AC_snd (c1 _ _ _) ?_|refine AC_snd (cp _ _ _) ?_|fail)<;>(try simp -implicitDefEqProofs (disch:=first|exact dd|fail)[Tryz.f96,h01.1,h01.2])))
 | true=>
  have hx:=hin rfl
  obtain ⟨i,rfl⟩:=Int.eq_ofNat_of_zero_le hx.1
  have hi2:i < 20:=by simp only at hx;omega
  have hil:i < f.inodes.length:=by omega
  have hhk:=hasI_kk (f:=f) hi2
  have cE:=fun a b d=>spec_l10Entries a b d f i hf ⟨by omega,by omega⟩
  have cC:=fun a b e g=>spec_l13Check a b e g f c y i hf hc hdu ⟨by omega,by omega⟩
  unfold kindE at hA
  rw [inodeAt_nat hil] at hhk hA
  by_cases hk0:f.inodes[i].kind=0
  ·have hh:hasI f i=false:=by rw [hhk];simp [hk0]
   simp [hh] at hA
   subst hA
   (try simp -implicitDefEqProofs (disch:=first|exact dd|fail)[Tryz.f96,h01.1,h01.2,hil,hk0,cInode]);(repeat'((with_reducible first|(refine Br.out ?_ ?_<;>intro h<;>(try(have h0:=h;simp only[bH]at h)))|refine AC_snd (c0 _ _ _) ?_|refine AC_snd (c00 _) ?_|refine AC_snd (c2 _ _ _ _) ?_|refine AC_snd (c1 _ _ _) ?_|refine AC_snd (cp _ _ _) ?_|fail)<;>(try simp -implicitDefEqProofs (disch:=first|exact dd|fail)[Tryz.f96,h01.1,h01.2,hil,hk0,cInode])))
  have hh:hasI f i=true:=by rw [hhk];simp [hk0]
  by_cases hkk:f.inodes[i].kind=kind
  rotate_left
  ·simp [hh,hkk,hw] at hA
   subst hA
   (try simp -implicitDefEqProofs (disch:=first|exact dd|fail)[Tryz.f96,h01.1,h01.2,hil,hk0,hkk,cInode]);(repeat'((with_reducible first|(refine Br.out ?_ ?_<;>intro h<;>(try(have h0:=h;simp only[bH]at h)))|refine AC_snd (c0 _ _ _) ?_|refine AC_snd (c00 _) ?_|refine AC_snd (c2 _ _ _ _) ?_|refine AC_snd (c1 _ _ _) ?_|refine AC_snd (cp _ _ _) ?_|fail)<;>(try simp -implicitDefEqProofs (disch:=first|exact dd|fail)[Tryz.f96,h01.1,h01.2,hil,hk0,hkk,cInode])))
  generalize checkP f c y i=e at *
  by_cases he:e=0
  rotate_left
  ·simp [hh,hkk,he] at hA
   subst hA
   (try simp -implicitDefEqProofs (disch:=first|exact dd|fail)[Tryz.f96,h01.1,h01.2,hil,hkd,hkk,he,cInode]);(repeat'((with_reducible first|(refine Br.out ?_ ?_<;>intro h<;>(try(have h0:=h;simp only[bH]at h)))|refine AC_snd (c0 _ _ _) ?_|refine AC_snd (c00 _) ?_|refine AC_snd (c2 _ _ _ _) ?_|refine AC_snd (c1 _ _ _) ?_|refine AC_snd (cC _ _ _ _) ?_|refine AC_snd (cp _ _ _) ?_|fail)<;>(try simp -implicitDefEqProofs (disch:=first|exact dd|fail)[Tryz.f96,h01.1,h01.2,hil,hkd,hkk,he,cInode])))
  subst he
  simp only [hh,hkk,if_true,ne_eq,not_true_eq_false,if_false,Bool.true_eq_false,or_self] at hA
  have hkp:=removeF_keeps (f:=f) (d:=y) (s:=s) ⟨hdl.1,by omega⟩
  have c7:=fun a b d=>spec_l10Remove a b d f y s hs hf hdu
  by_cases hr:(removeF f y s).2=0
  ·have hg:=hf.remove hdu hr
   have hgd:hasI (removeF f y s).1 y=true:=by rw [hkp.has];exact hdu
   have hgi:hasI (removeF f y s).1 i=true:=by rw [hkp.has];exact hh
   have hD:dropF f y s i busy=(unlinkF (touchF (removeF f y s).1 y) i busy,0):=by unfold dropF;rw [if_pos hr]
   rw [hD] at hA
   rw [if_pos hr,hr] at c7
   generalize (removeF f y s).1=g at *
   obtain ⟨k,rfl⟩:=Int.eq_ofNat_of_zero_le hdl.1
   have c8:=spec_l12Touch g k (by rw [hg.ni];omega)
   have c9:=fun a=>spec_l13Unlink a (touchF g k) i busy (hg.touch hgd) (by rw [touch_has (by rw [hg.ni];omega)];exact hgi) hb
   generalize unlinkF (touchF g k) i busy=g2 at *
   generalize touchF g k=g1 at *
   by_cases hk:kind=2
   ·by_cases h4:(entriesI f i).length=0
    ·rw [if_neg (fun H=>H.2 h4)] at hA
     simp only [if_true] at hA
     subst hA
     generalize entriesI f i=E at *
     (try simp -implicitDefEqProofs (disch:=first|exact dd|fail)[Tryz.f96,h01.1,h01.2,hil,hkk,hk,h4,cInode]);(repeat'((with_reducible first|(refine Br.out ?_ ?_<;>intro h<;>(try(have h0:=h;simp only[bH]at h)))|refine AC_snd (c0 _ _ _) ?_|refine AC_snd (c00 _) ?_|refine AC_snd (c2 _ _ _ _) ?_|refine AC_snd (c1 _ _ _) ?_|refine AC_snd (cC _ _ _ _) ?_|refine AC_snd (cE _ _ _) ?_|refine AC_snd (c7 _ _ _) ?_|refine AC_snd (c8) ?_|refine AC_snd (c9 _) ?_|refine AC_snd (cp _ _ _) ?_|fail)<;>(try simp -implicitDefEqProofs (disch:=first|exact dd|fail)[Tryz.f96,h01.1,h01.2,hil,hkk,hk,h4,cInode])))
    ·rw [if_pos ⟨hk,h4⟩] at hA
     subst hA
     generalize entriesI f i=E at *
     (try simp -implicitDefEqProofs (disch:=first|exact dd|fail)[Tryz.f96,h01.1,h01.2,hil,hkk,hk,(by omega:(0:Int) < (E.length:Int)),eq_false (by omega:¬ (((E.length:Int):Int)≤0)),cInode]);(repeat'((with_reducible first|(refine Br.out ?_ ?_<;>intro h<;>(try(have h0:=h;simp only[bH]at h)))|refine AC_snd (c0 _ _ _) ?_|refine AC_snd (c00 _) ?_|refine AC_snd (c2 _ _ _ _) ?_|refine AC_snd (c1 _ _ _) ?_|refine AC_snd (cC _ _ _ _) ?_|refine AC_snd (cE _ _ _) ?_|refine AC_snd (cp _ _ _) ?_|fail)<;>(try simp -implicitDefEqProofs (disch:=first|exact dd|fail)[Tryz.f96,h01.1,h01.2,hil,hkk,hk,(by omega:(0:Int) < (E.length:Int)),eq_false (by omega:¬ (((E.length:Int):Int)≤0)),cInode])))
   ·rw [if_neg (fun H=>hk H.1)] at hA
    simp only [if_true] at hA
    subst hA
    (try simp -implicitDefEqProofs (disch:=first|exact dd|fail)[Tryz.f96,h01.1,h01.2,hil,hkd,hkk,hk,cInode]);(repeat'((with_reducible first|(refine Br.out ?_ ?_<;>intro h<;>(try(have h0:=h;simp only[bH]at h)))|refine AC_snd (c0 _ _ _) ?_|refine AC_snd (c00 _) ?_|refine AC_snd (c2 _ _ _ _) ?_|refine AC_snd (c1 _ _ _) ?_|refine AC_snd (cC _ _ _ _) ?_|refine AC_snd (c7 _ _ _) ?_|refine AC_snd (c8) ?_|refine AC_snd (c9 _) ?_|refine AC_snd (cp _ _ _) ?_|fail)<;>(try simp -implicitDefEqProofs (disch:=first|exact dd|fail)[Tryz.f96,h01.1,h01.2,hil,hkd,hkk,hk,cInode])))
  ·have hD:dropF f y s i busy=removeF f y s:=by unfold dropF;rw [if_neg hr]
   rw [hD] at hA
   simp only [hr,if_false] at hA c7
   by_cases hk:kind=2
   ·by_cases h4:(entriesI f i).length=0
    ·rw [if_neg (fun H=>H.2 h4)] at hA
     subst hA
     generalize entriesI f i=E at *
     generalize (removeF f y s).2=v at *
     (try simp -implicitDefEqProofs (disch:=first|exact dd|fail)[Tryz.f96,h01.1,h01.2,hil,hkk,hk,h4,hr,cInode]);(repeat'((with_reducible first|(refine Br.out ?_ ?_<;>intro h<;>(try(have h0:=h;simp only[bH]at h)))|refine AC_snd (c0 _ _ _) ?_|refine AC_snd (c00 _) ?_|refine AC_snd (c2 _ _ _ _) ?_|refine AC_snd (c1 _ _ _) ?_|refine AC_snd (cC _ _ _ _) ?_|refine AC_snd (cE _ _ _) ?_|refine AC_snd (c7 _ _ _) ?_|refine AC_snd (cp _ _ _) ?_|fail)<;>(try simp -implicitDefEqProofs (disch:=first|exact dd|fail)[Tryz.f96,h01.1,h01.2,hil,hkk,hk,h4,hr,cInode])))
    ·rw [if_pos ⟨hk,h4⟩] at hA
     subst hA
     generalize entriesI f i=E at *
     (try simp -implicitDefEqProofs (disch:=first|exact dd|fail)[Tryz.f96,h01.1,h01.2,hil,hkk,hk,(by omega:(0:Int) < (E.length:Int)),eq_false (by omega:¬ (((E.length:Int):Int)≤0)),cInode]);(repeat'((with_reducible first|(refine Br.out ?_ ?_<;>intro h<;>(try(have h0:=h;simp only[bH]at h)))|refine AC_snd (c0 _ _ _) ?_|refine AC_snd (c00 _) ?_|refine AC_snd (c2 _ _ _ _) ?_|refine AC_snd (c1 _ _ _) ?_|refine AC_snd (cC _ _ _ _) ?_|refine AC_snd (cE _ _ _) ?_|refine AC_snd (cp _ _ _) ?_|fail)<;>(try simp -implicitDefEqProofs (disch:=first|exact dd|fail)[Tryz.f96,h01.1,h01.2,hil,hkk,hk,(by omega:(0:Int) < (E.length:Int)),eq_false (by omega:¬ (((E.length:Int):Int)≤0)),cInode])))
   ·rw [if_neg (fun H=>hk H.1)] at hA
    subst hA
    generalize (removeF f y s).2=v at *
    (try simp -implicitDefEqProofs (disch:=first|exact dd|fail)[Tryz.f96,h01.1,h01.2,hil,hkd,hkk,hk,hr,cInode]);(repeat'((with_reducible first|(refine Br.out ?_ ?_<;>intro h<;>(try(have h0:=h;simp only[bH]at h)))|refine AC_snd (c0 _ _ _) ?_|refine AC_snd (c00 _) ?_|refine AC_snd (c2 _ _ _ _) ?_|refine AC_snd (c1 _ _ _) ?_|refine AC_snd (cC _ _ _ _) ?_|refine AC_snd (c7 _ _ _) ?_|refine AC_snd (cp _ _ _) ?_|fail)<;>(try simp -implicitDefEqProofs (disch:=first|exact dd|fail)[Tryz.f96,h01.1,h01.2,hil,hkd,hkk,hk,hr,cInode])))
theorem spec_RemoveFile (n1 n2 n3 n4 n5:Option Bool) (f:DFS) (c:DCred) (p:Str) (busy:List Int) (hs:SmF f) (hc:c.groups.length≤1048576) (hp:p.length≤1048576) (hb:busy.length≤1048576):Snd Tryz.prog 35 [fFS n1 n2 n3 f,fCred n4 c, .str p, .frz 1 n5 (busy.map ci)] (.tup [rFS (unmakeO f c p busy 1 6).1, .int .i64 (unmakeO f c p busy 1 6).2]) [.unk, .unk, .unk, .unk]:=Runs.snd (M:=M) (c:=⟨4,[4,5,8,9],[],[]⟩) tok ks mixed Tryz.func35 (p := []) (by kernel_rfl) (by rfl) (by rfl) <| by
 have c1:=fun a b d e g=>spec_l13Remove a b d e g f c p busy 1 6 hs hc hp hb (by decide) (by decide)
 generalize unmakeO f c p busy 1 6=r at *
 (try simp -implicitDefEqProofs (disch:=first|exact dd|fail)[Tryz.f35]);(repeat'((with_reducible first|(refine Br.out ?_ ?_<;>intro h<;>(try(have h0:=h;simp only[bH]at h)))|refine AC_snd (c1 _ _ _ _ _) ?_|fail)<;>(try simp -implicitDefEqProofs (disch:=first|exact dd|fail)[Tryz.f35])))
theorem spec_RemoveDir (n1 n2 n3 n4 n5:Option Bool) (f:DFS) (c:DCred) (p:Str) (busy:List Int) (hs:SmF f) (hc:c.groups.length≤1048576) (hp:p.length≤1048576) (hb:busy.length≤1048576):Snd Tryz.prog 30 [fFS n1 n2 n3 f,fCred n4 c, .str p, .frz 1 n5 (busy.map ci)] (.tup [rFS (unmakeO f c p busy 2 5).1, .int .i64 (unmakeO f c p busy 2 5).2]) [.unk, .unk, .unk, .unk]:=Runs.snd (M:=M) (c:=⟨4,[4,5,8,9],[],[]⟩) tok ks mixed Tryz.func30 (p := []) (by kernel_rfl) (by rfl) (by rfl) <| by
 have c1:=fun a b d e g=>spec_l13Remove a b d e g f c p busy 2 5 hs hc hp hb (by decide) (by decide)
 generalize unmakeO f c p busy 2 5=r at *
 (try simp -implicitDefEqProofs (disch:=first|exact dd|fail)[Tryz.f30]);(repeat'((with_reducible first|(refine Br.out ?_ ?_<;>intro h<;>(try(have h0:=h;simp only[bH]at h)))|refine AC_snd (c1 _ _ _ _ _) ?_|fail)<;>(try simp -implicitDefEqProofs (disch:=first|exact dd|fail)[Tryz.f30])))
end Go.Proofs.YtgopfdninbknpaaGreat
