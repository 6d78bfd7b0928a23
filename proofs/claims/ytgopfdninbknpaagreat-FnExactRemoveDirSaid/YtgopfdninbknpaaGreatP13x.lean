import Derived.Test.YtgopfdninbknpaaGreatP13e
import Derived.Test.YtgopfdninbknpaaGreatP13c
import Derived.Test.YtgopfdninbknpaaGreatP14m
import Derived.Test.YtgopfdninbknpaaGreatM30
import Derived.Test.YtgopfdninbknpaaGreatP09
namespace Go.Proofs.YtgopfdninbknpaaGreat
open Go.Fw
set_option linter.unusedVariables false
set_option linter.unusedSimpArgs false
set_option maxHeartbeats 1000000
set_option maxRecDepth 8000
theorem impl_drop (n4:Option Bool) (f:DFS) (d i:Nat) (s:Str) (busy:List Int) (hf:IsFS f) (hd:hasI f d=true) (hi:hasI f i=true) (hb:busy.length≤1048576):Snd Tryz.prog 107 [wFS f, .int .i64 d, .str s, .int .i64 i, .frz 1 n4 (busy.map ci)] (.int .i64 (dropF f d s i busy).2) [wFS (dropF f d s i busy).1, .unk, .unk, .unk, .unk]:=Runs.snd (M:=M) (c:=⟨5,[10,11,12,18,56],[],[]⟩) tok ks mixed Tryz.func107 (p := [0]) (by kernel_rfl) (by rfl) (by rfl) <| by
 have hdl:=hasI_lt hd
 have hil:=hasI_lt hi
 have c1:=impl_remove f d s (SmF.of hf) hf hd
 have hk:=removeF_keeps (f:=f) (d:=d) (s:=s) ⟨hdl.1,by rw [hf.ni];omega⟩
 obtain ⟨A,hA⟩:∃ A,A=dropF f d s i busy:=⟨_,rfl⟩
 rw [←hA]
 unfold dropF at hA
 by_cases he:(removeF f d s).2=0
 rotate_left
 ·rw [if_neg he] at hA
  subst hA
  generalize removeF f d s=r at *
  (try simp -implicitDefEqProofs (disch:=first|exact dd|fail)[Tryz.f107,he]);(repeat'((with_reducible first|(refine Br.out ?_ ?_<;>intro h<;>(try(have h0:=h;simp only[bH]at h)))|refine AC_snd (c1) ?_|fail)<;>(try simp -implicitDefEqProofs (disch:=first|exact dd|fail)[Tryz.f107,he])))
 rw [if_pos he] at hA
 have hg:=hf.remove hd he
 have hgd:hasI (removeF f d s).1 d=true:=by rw [hk.has];exact hd
 have hgi:hasI (removeF f d s).1 i=true:=by rw [hk.has];exact hi
 rw [he] at c1
 generalize (removeF f d s).1=g at *
 have hn:=hg.ni
 have hdg:d < g.inodes.length:=by omega
 have hig:i < g.inodes.length:=by omega
 have hg1:=hg.touch hgd
 have hg1i:hasI (touchF g d) i=true:=by rw [touch_has (by omega)];exact hgi
 have hm:∀ (L:List DInode) (k:Nat) (n:DInode),(L.map cInode).set k (cInode n)=(L.set k n).map cInode:=fun L k n=>List.map_set.symm
 have hr1:=hm g.inodes d { g.inodes[d] with tick:=g.tick }
 have ht:touchF g d=⟨g.tick,g.quotas,g.inodes.set d { g.inodes[d] with tick:=g.tick },g.data⟩:=by
  unfold touchF setN
  rw [inodeAt_nat hdg]
  simp
 rw [ht] at hA hg1 hg1i
 have hLl:(g.inodes.set d { g.inodes[d] with tick:=g.tick }).length=g.inodes.length:=List.length_set
 generalize g.inodes.set d { g.inodes[d] with tick:=g.tick }=L at *
 have hiL:i < L.length:=by omega
 have hg2:=hg1.unlinkS hg1i
 have hp:=free_pre hg2 (i:=(i:Int)) (by
  have:=hg1i
  unfold hasI unlinkS at *
  rw [setN_at (by simpa using hiL),if_pos rfl]
  exact this)
 have hlk:=(hasI_ok hg1 hg1i).links
 rw [inodeAt_nat (f:=⟨g.tick,g.quotas,L,g.data⟩) hiL] at hlk
 simp only at hlk
 have hr2:=hm L i { L[i] with links:=max (L[i].links - 1) 0 }
 have hu:unlinkS ⟨g.tick,g.quotas,L,g.data⟩ i=⟨g.tick,g.quotas,L.set i { L[i] with links:=max (L[i].links - 1) 0 },g.data⟩:=by
  unfold unlinkS setN
  rw [inodeAt_nat (f:=⟨g.tick,g.quotas,L,g.data⟩) hiL]
  simp
 have hmx:(if (1:Int) < L[i].links then L[i].links - 1 else 0)=max (L[i].links - 1) 0:=by split<;>omega
 have hget:(L.set i { L[i] with links:=max (L[i].links - 1) 0 })[i]? = some { L[i] with links:=max (L[i].links - 1) 0 }:=by rw [List.getElem?_set_self hiL]
 unfold unlinkF freeB at hA
 rw [hu] at hA hg2 hp
 have hl2:(L.set i { L[i] with links:=max (L[i].links - 1) 0 }).length=g.inodes.length:=by rw [List.length_set];exact hLl
 generalize max (L[i].links - 1) 0=v at *
 generalize L.set i { L[i] with links:=v }=L2 at *
 have hi2:i < L2.length:=by omega
 have hLi2:L2[i]={ L[i] with links:=v }:=by rw [List.getElem?_eq_getElem hi2] at hget;exact Option.some.inj hget
 rw [inodeAt_nat (f:=⟨g.tick,g.quotas,L2,g.data⟩) hi2,hLi2] at hA
 simp only at hA
 simp only [cInode] at hr1 hr2
 clear hm
 have cc:=fun a=>slices_Contains a busy (i:Int) hb
 have c2:=fun h0=>impl_free ⟨g.tick,g.quotas,L2,g.data⟩ i (SmF.of hg2) hp.1 hg2.ni h0 hg2.nd hp.2
 by_cases hi0:(i:Int)=0
 ·have c3:=impl_free0 ⟨g.tick,g.quotas,L2,g.data⟩
  rw [←hi0] at c3
  simp [hi0] at hA
  subst hA
  (try simp -implicitDefEqProofs (disch:=first|exact dd|fail)[Tryz.f107,hdg,hiL,hLl,hl2,hr1,hr2,hmx,hi2,hLi2,cInode]);(repeat'((with_reducible first|(refine Br.out ?_ ?_<;>intro h<;>(try(have h0:=h;simp only[bH]at h)))|refine AC_snd (c1) ?_|refine AC_snd (cc _) ?_|refine AC_snd (c3) ?_|fail)<;>(try simp -implicitDefEqProofs (disch:=first|exact dd|fail)[Tryz.f107,hdg,hiL,hLl,hl2,hr1,hr2,hmx,hi2,hLi2,cInode])))
 ·have c3:=c2 hi0
  generalize freeF ⟨g.tick,g.quotas,L2,g.data⟩ i=g3 at *
  by_cases hv:v=0
  ·subst hv
   by_cases hbz:(i:Int) ∈ busy
   ·simp [hbz] at hA
    subst hA
    (try simp -implicitDefEqProofs (disch:=first|exact dd|fail)[Tryz.f107,hdg,hiL,hLl,hl2,hr1,hr2,hmx,hi2,hLi2,hbz,cInode]);(repeat'((with_reducible first|(refine Br.out ?_ ?_<;>intro h<;>(try(have h0:=h;simp only[bH]at h)))|refine AC_snd (c1) ?_|refine AC_snd (cc _) ?_|fail)<;>(try simp -implicitDefEqProofs (disch:=first|exact dd|fail)[Tryz.f107,hdg,hiL,hLl,hl2,hr1,hr2,hmx,hi2,hLi2,hbz,cInode])))
   ·simp [hbz,hi0,show ¬ i=0 by omega] at hA
    subst hA
    (try simp -implicitDefEqProofs (disch:=first|exact dd|fail)[Tryz.f107,hdg,hiL,hLl,hl2,hr1,hr2,hmx,hi2,hLi2,hbz,cInode]);(repeat'((with_reducible first|(refine Br.out ?_ ?_<;>intro h<;>(try(have h0:=h;simp only[bH]at h)))|refine AC_snd (c1) ?_|refine AC_snd (cc _) ?_|refine AC_snd (c3) ?_|fail)<;>(try simp -implicitDefEqProofs (disch:=first|exact dd|fail)[Tryz.f107,hdg,hiL,hLl,hl2,hr1,hr2,hmx,hi2,hLi2,hbz,cInode])))
  ·simp [hv] at hA
   subst hA
   (try simp -implicitDefEqProofs (disch:=first|exact dd|fail)[Tryz.f107,hdg,hiL,hLl,hl2,hr1,hr2,hmx,hi2,hLi2,hv,cInode]);(repeat'((with_reducible first|(refine Br.out ?_ ?_<;>intro h<;>(try(have h0:=h;simp only[bH]at h)))|refine AC_snd (c1) ?_|fail)<;>(try simp -implicitDefEqProofs (disch:=first|exact dd|fail)[Tryz.f107,hdg,hiL,hLl,hl2,hr1,hr2,hmx,hi2,hLi2,hv,cInode])))
def kindE (kind wrong:Int) (n:DInode):Int:=if n.kind=kind then 0 else wrong
theorem impl_removeObject1 (n1 n2 n3:Option Bool) (x:DInode) (kind wrong:Int):Snd Tryz.prog 180 [fInode n1 n2 n3 x, .fptr [.int .i64 kind], .fptr [.int .i64 wrong]] (.int .i64 (kindE kind wrong x)) [.unk, .unk, .unk]:=Runs.snd (M:=M) (c:=⟨1,[1,2,3,4,8],[],[]⟩) tok ks mixed Tryz.func180 (p := []) (by kernel_rfl) (by rfl) (by rfl) <| by
 unfold kindE
 (try simp -implicitDefEqProofs (disch:=first|exact dd|fail)[Tryz.f180]);(repeat'((with_reducible first|(refine Br.out ?_ ?_<;>intro h<;>(try(have h0:=h;simp only[bH]at h)))|fail)<;>(try simp -implicitDefEqProofs (disch:=first|exact dd|fail)[Tryz.f180])))
 all_goals simp [*]
theorem impl_removalK (n1 n2 n3 n4:Option Bool) (f:DFS) (c:DCred) (d:Int) (s:Str) (kind wrong:Int) (hw:¬ wrong=0) (hf:IsFS f) (hc:c.groups.length≤1048576) (hd:0≤d∧d < 20):Snd Tryz.prog 179 [pFS n1 n2 n3 f,fCred n4 c, .int .i64 d, .str s, .fn 180 [.fptr [.int .i64 kind], .fptr [.int .i64 wrong]]] (.tup [.int .i64 (removalP f c d s (kindE kind wrong)).1, .int .i64 (removalP f c d s (kindE kind wrong)).2]) [.unk, .unk, .unk, .unk, .unk]:=Runs.snd (M:=M) (c:=⟨5,[6,10,11,12,13,14,29,40,46,73],[],[]⟩) tok ks mixed Tryz.func179 (p := []) (by kernel_rfl) (by rfl) (by rfl) <| by
 have hn:=hf.ni
 have hs:=SmF.of hf
 have c1:=fun a b e=>impl_find a b e f d s hf hd
 have c2:=fun a b e i=>impl_has a b e f i hn
 have c3:=fun a b e g=>impl_may a b e g f c d 3 hn hs hc
 have c4:=fun a u m w=>impl_MayRemove a c u m w hc
 have hin:(findE (entriesI f d) s).2=true→_:=findE_in
 obtain ⟨A,hA⟩:∃ A,A=removalP f c d s (kindE kind wrong):=⟨_,rfl⟩
 rw [←hA]
 unfold removalP checkP at hA
 generalize findE (entriesI f d) s=r at *
 obtain ⟨x,y⟩:=r
 obtain ⟨k,rfl⟩:=Int.eq_ofNat_of_zero_le hd.1
 have hkl:k < f.inodes.length:=by omega
 rw [inodeAt_nat hkl] at hA
 cases y with
 | false=>
  rw [if_pos (.inl rfl)] at hA
  subst hA
  (try simp -implicitDefEqProofs (disch:=first|exact dd|fail)[Tryz.f179]);(repeat'((with_reducible first|(refine Br.out ?_ ?_<;>intro h<;>(try(have h0:=h;simp only[bH]at h)))|refine AC_snd (c1 _ _ _) ?_|fail)<;>(try simp -implicitDefEqProofs (disch:=first|exact dd|fail)[Tryz.f179])))
 | true=>
  by_cases h1:hasI f x=true
  ·rw [if_neg (by simp [h1])] at hA
   have hx:=hin rfl
   obtain ⟨i,rfl⟩:=Int.eq_ofNat_of_zero_le hx.1
   have hil:i < f.inodes.length:=by simp only at hx;omega
   rw [inodeAt_nat hil] at hA
   have c5:=fun a b e=>impl_removeObject1 a b e f.inodes[i] kind wrong
   by_cases h5:kindE kind wrong f.inodes[i]=0
   rotate_left
   ·rw [if_pos h5] at hA
    have h6:kindE kind wrong f.inodes[i]=wrong:=by
     unfold kindE at h5 ⊢
     split
     ·rename_i h;rw [if_pos h] at h5;exact absurd rfl h5
     ·rfl
    rw [h6] at hA c5
    subst hA
    (try simp -implicitDefEqProofs (disch:=first|exact dd|fail)[Tryz.f179,h1,hil,hw,cInode]);(repeat'((with_reducible first|(refine Br.out ?_ ?_<;>intro h<;>(try(have h0:=h;simp only[bH]at h)))|refine AC_snd (c1 _ _ _) ?_|refine AC_snd (c2 _ _ _ _) ?_|refine AC_snd (c5 _ _ _) ?_|fail)<;>(try simp -implicitDefEqProofs (disch:=first|exact dd|fail)[Tryz.f179,h1,hil,hw,cInode])))
   rw [if_neg (by simp [h5])] at hA
   rw [h5] at c5
   by_cases h2:mayI f c k 3=true
   ·rw [h2] at hA
    generalize hm:mayRemove c f.inodes[k].uid f.inodes[k].mode f.inodes[i].uid=b at hA
    have c4'':=fun a=>c4 a f.inodes[k].uid f.inodes[k].mode f.inodes[i].uid
    rw [hm] at c4''
    cases b with
    | true=>
     simp at hA
     subst hA
     (try simp -implicitDefEqProofs (disch:=first|exact dd|fail)[Tryz.f179,h1,h2,hkl,hil,cInode]);(repeat'((with_reducible first|(refine Br.out ?_ ?_<;>intro h<;>(try(have h0:=h;simp only[bH]at h)))|refine AC_snd (c1 _ _ _) ?_|refine AC_snd (c2 _ _ _ _) ?_|refine AC_snd (c5 _ _ _) ?_|refine AC_snd (c3 _ _ _ _) ?_|refine AC_snd (c4'' _) ?_|fail)<;>(try simp -implicitDefEqProofs (disch:=first|exact dd|fail)[Tryz.f179,h1,h2,hkl,hil,cInode])))
    | false=>
     simp at hA
     subst hA
     (try simp -implicitDefEqProofs (disch:=first|exact dd|fail)[Tryz.f179,h1,h2,hkl,hil,cInode]);(repeat'((with_reducible first|(refine Br.out ?_ ?_<;>intro h<;>(try(have h0:=h;simp only[bH]at h)))|refine AC_snd (c1 _ _ _) ?_|refine AC_snd (c2 _ _ _ _) ?_|refine AC_snd (c5 _ _ _) ?_|refine AC_snd (c3 _ _ _ _) ?_|refine AC_snd (c4'' _) ?_|fail)<;>(try simp -implicitDefEqProofs (disch:=first|exact dd|fail)[Tryz.f179,h1,h2,hkl,hil,cInode])))
   ·have h2':mayI f c k 3=false:=by simpa using h2
    rw [h2'] at hA
    simp at hA
    subst hA
    (try simp -implicitDefEqProofs (disch:=first|exact dd|fail)[Tryz.f179,h1,h2',hkl,hil,cInode]);(repeat'((with_reducible first|(refine Br.out ?_ ?_<;>intro h<;>(try(have h0:=h;simp only[bH]at h)))|refine AC_snd (c1 _ _ _) ?_|refine AC_snd (c2 _ _ _ _) ?_|refine AC_snd (c5 _ _ _) ?_|refine AC_snd (c3 _ _ _ _) ?_|fail)<;>(try simp -implicitDefEqProofs (disch:=first|exact dd|fail)[Tryz.f179,h1,h2',hkl,hil,cInode])))
  ·have h1':hasI f x=false:=by simpa using h1
   rw [if_pos (.inr h1')] at hA
   subst hA
   (try simp -implicitDefEqProofs (disch:=first|exact dd|fail)[Tryz.f179,h1']);(repeat'((with_reducible first|(refine Br.out ?_ ?_<;>intro h<;>(try(have h0:=h;simp only[bH]at h)))|refine AC_snd (c1 _ _ _) ?_|refine AC_snd (c2 _ _ _ _) ?_|fail)<;>(try simp -implicitDefEqProofs (disch:=first|exact dd|fail)[Tryz.f179,h1'])))
theorem removalP_ok {f:DFS} {c:DCred} {d:Int} {s:Str} {e:DInode→Int} (h:(removalP f c d s e).2=0):(findE (entriesI f d) s).2=true∧(removalP f c d s e).1=(findE (entriesI f d) s).1∧hasI f (findE (entriesI f d) s).1=true:=by
 unfold removalP at h ⊢
 split
 ·rename_i h1;rw [if_pos h1] at h;cases h
 rename_i h1
 rw [if_neg h1] at h
 split
 ·rename_i h2;rw [if_pos h2] at h;exact absurd h h2
 rename_i h2
 rw [if_neg h2] at h
 split
 ·rename_i h3;rw [if_pos h3] at h;exact absurd h h3
 ·have:(findE (entriesI f d) s).2=true∧hasI f (findE (entriesI f d) s).1=true:=by simpa using h1
  exact ⟨this.1,rfl,this.2⟩
noncomputable def unmakeO (f:DFS) (c:DCred) (p:Str) (busy:List Int) (kind wrong:Int):DFS × Int:=
 if (isFS f && isCred c)=false then (f,1) else if (resolveQ f c p).2.2≠0 then (f,(resolveQ f c p).2.2)
 else if (removalP f c (resolveQ f c p).1 (resolveQ f c p).2.1 (kindE kind wrong)).2≠0 then (f,(removalP f c (resolveQ f c p).1 (resolveQ f c p).2.1 (kindE kind wrong)).2)
 else if kind=2∧(entriesI f (removalP f c (resolveQ f c p).1 (resolveQ f c p).2.1 (kindE kind wrong)).1).length≠0 then (f,10)
 else (if (dropF f (resolveQ f c p).1 (resolveQ f c p).2.1 (removalP f c (resolveQ f c p).1 (resolveQ f c p).2.1 (kindE kind wrong)).1 busy).2=0 then (dropF f (resolveQ f c p).1 (resolveQ f c p).2.1 (removalP f c (resolveQ f c p).1 (resolveQ f c p).2.1 (kindE kind wrong)).1 busy).1 else f,
  (dropF f (resolveQ f c p).1 (resolveQ f c p).2.1 (removalP f c (resolveQ f c p).1 (resolveQ f c p).2.1 (kindE kind wrong)).1 busy).2)
theorem unmakeO_fs {f:DFS} {c:DCred} {p:Str} {l:List Int} {kind wrong:Int}:(unmakeO f c p l kind wrong).1=f∨IsFS (unmakeO f c p l kind wrong).1:=by
 unfold unmakeO
 split
 ·exact .inl rfl
 split
 ·exact .inl rfl
 rename_i h2
 have hq:=resolveQ_ok (Classical.not_not.1 h2)
 split
 ·exact .inl rfl
 rename_i h3
 have hr:=removalP_ok (Classical.not_not.1 h3)
 split
 ·exact .inl rfl
 simp only
 split
 ·rename_i h5
  right
  have hf:=tr_iff.1 hq.1
  exact hf.drop (isDir_use hq.2.2.1) (by rw [hr.2.1];exact hr.2.2) h5
 ·exact .inl rfl
theorem unmakeO1_fs {f:DFS} {c:DCred} {p:Str} {l:List Int}:(unmakeO f c p l 1 6).1=f∨IsFS (unmakeO f c p l 1 6).1:=unmakeO_fs
theorem unmakeO2_fs {f:DFS} {c:DCred} {p:Str} {l:List Int}:(unmakeO f c p l 2 5).1=f∨IsFS (unmakeO f c p l 2 5).1:=unmakeO_fs
theorem impl_removeObject2 (n5:Option Bool) (f:DFS) (d i:Int) (s:Str) (busy:List Int) (hf:IsFS f) (hd:hasI f d=true) (hi:hasI f i=true) (hb:busy.length≤1048576):Snd Tryz.prog 181 [wFS f, .fptr [.int .i64 d], .fptr [.str s], .fptr [.int .i64 i], .fptr [.frz 1 n5 (busy.map ci)]] (.int .i64 (dropF f d s i busy).2) [wFS (dropF f d s i busy).1, .unk, .unk, .unk, .unk]:=Runs.snd (M:=M) (c:=⟨1,[1,2,3,4,6],[],[]⟩) tok ks mixed Tryz.func181 (p := [0]) (by kernel_rfl) (by rfl) (by rfl) <| by
 have hdl:=hasI_lt hd
 have hil:=hasI_lt hi
 obtain ⟨a,rfl⟩:=Int.eq_ofNat_of_zero_le hdl.1
 obtain ⟨b,rfl⟩:=Int.eq_ofNat_of_zero_le hil.1
 have c1:=fun e=>impl_drop e f a b s busy hf hd hi hb
 generalize dropF f a s b busy=r at *
 obtain ⟨g,e⟩:=r
 (try simp -implicitDefEqProofs (disch:=first|exact dd|fail)[Tryz.f181]);(repeat'((with_reducible first|(refine Br.out ?_ ?_<;>intro h<;>(try(have h0:=h;simp only[bH]at h)))|refine AC_snd (c1 _) ?_|fail)<;>(try simp -implicitDefEqProofs (disch:=first|exact dd|fail)[Tryz.f181])))
theorem impl_changed_remove (n1 n2 n3 n5:Option Bool) (f:DFS) (d i:Int) (s:Str) (busy:List Int) (hf:IsFS f) (hd:hasI f d=true) (hi:hasI f i=true) (hb:busy.length≤1048576):Snd Tryz.prog 82 [fFS n1 n2 n3 f, .fn 181 [.fptr [.int .i64 d], .fptr [.str s], .fptr [.int .i64 i], .fptr [.frz 1 n5 (busy.map ci)]]] (.tup [rFS (if (dropF f d s i busy).2=0 then (dropF f d s i busy).1 else f), .int .i64 (dropF f d s i busy).2]) [.unk, .unk]:=Runs.snd (M:=M) (c:=⟨2,[2,4,5,6,7,13],[],[]⟩) tok ks mixed Tryz.func82 (p := []) (by kernel_rfl) (by rfl) (by rfl) <| by
 have hc:=impl_removeObject2 n5 f d i s busy hf hd hi hb
 have hs:=SmF.of hf
 generalize dropF f d s i busy=r at *
 obtain ⟨g,e⟩:=r
 by_cases he:e=0
 ·subst he
  simp only [if_true]
  (try simp -implicitDefEqProofs (disch:=first|exact dd|fail)[Tryz.f82]);(repeat'((with_reducible first|(refine Br.out ?_ ?_<;>intro h<;>(try(have h0:=h;simp only[bH]at h)))|refine AC_snd (impl_copyFS _ _ _ f hs) ?_|refine AC_snd (hc) ?_|fail)<;>(try simp -implicitDefEqProofs (disch:=first|exact dd|fail)[Tryz.f82])))
 ·simp only [he,if_false]
  (try simp -implicitDefEqProofs (disch:=first|exact dd|fail)[Tryz.f82,he]);(repeat'((with_reducible first|(refine Br.out ?_ ?_<;>intro h<;>(try(have h0:=h;simp only[bH]at h)))|refine AC_snd (impl_copyFS _ _ _ f hs) ?_|refine AC_snd (hc) ?_|fail)<;>(try simp -implicitDefEqProofs (disch:=first|exact dd|fail)[Tryz.f82,he])))
theorem impl_removeObject (n1 n2 n3 n4 n5:Option Bool) (f:DFS) (c:DCred) (p:Str) (busy:List Int) (kind wrong:Int) (hw:¬ wrong=0) (hs:SmF f) (hc:c.groups.length≤1048576) (hp:p.length≤1048576) (hb:busy.length≤1048576):Snd Tryz.prog 97 [fFS n1 n2 n3 f,fCred n4 c, .str p, .frz 1 n5 (busy.map ci), .int .i64 kind, .int .i64 wrong] (.tup [rFS (unmakeO f c p busy kind wrong).1, .int .i64 (unmakeO f c p busy kind wrong).2]) [.unk, .unk, .unk, .unk, .unk, .unk]:=Runs.snd (M:=M) (c:=⟨6,[6,7,9,10,11,12,13,14,15,16,17,25,37,50,61],[],[]⟩) tok ks mixed Tryz.func97 (p := []) (by kernel_rfl) (by rfl) (by rfl) <| by
 have c2:=fun a b d e=>impl_ResolveParent a b d e f c p hs hc hp
 have hok2:=resolveQ_ok (f:=f) (c:=c) (p:=p)
 have cp:=fun a b d=>impl_copyFS a b d f hs
 have c0:=fun a b d=>impl_IsFS a b d f hs
 have c00:=fun a=>impl_IsCred a c hc
 obtain ⟨A,hA⟩:∃ A,A=unmakeO f c p busy kind wrong:=⟨_,rfl⟩
 rw [←hA]
 unfold unmakeO at hA
 by_cases h0:(isFS f && isCred c)=true
 rotate_left
 ·rw [if_pos (by simpa using h0)] at hA
  subst hA
  (try simp -implicitDefEqProofs (disch:=first|exact dd|fail)[Tryz.f97]);(repeat'((with_reducible first|(refine Br.out ?_ ?_<;>intro h<;>(try(have h0:=h;simp only[bH]at h)))|refine AC_snd (c0 _ _ _) ?_|refine AC_snd (c00 _) ?_|refine AC_snd (cp _ _ _) ?_|fail)<;>(try simp -implicitDefEqProofs (disch:=first|exact dd|fail)[Tryz.f97])))
  all_goals (exfalso;simp_all)
 rw [if_neg (by simp [h0])] at hA
 have h01:=Bool.and_eq_true_iff.1 h0
 generalize resolveQ f c p=w at *
 obtain ⟨y,s,e2⟩:=w
 by_cases he2:e2=0
 rotate_left
 ·simp [he2] at hA
  subst hA
  (try simp -implicitDefEqProofs (disch:=first|exact dd|fail)[Tryz.f97,h01.1,h01.2,he2]);(repeat'((with_reducible first|(refine Br.out ?_ ?_<;>intro h<;>(try(have h0:=h;simp only[bH]at h)))|refine AC_snd (c0 _ _ _) ?_|refine AC_snd (c00 _) ?_|refine AC_snd (c2 _ _ _ _) ?_|refine AC_snd (cp _ _ _) ?_|fail)<;>(try simp -implicitDefEqProofs (disch:=first|exact dd|fail)[Tryz.f97,h01.1,h01.2,he2])))
 subst he2
 simp only [ne_eq,not_true_eq_false,if_false] at hA
 have h2:=hok2 rfl
 simp only at h2
 have hf:=tr_iff.1 h2.1
 have hdu:=isDir_use h2.2.2.1
 have hdl:=hasI_lt hdu
 have c3:=fun a b d g=>impl_removalK a b d g f c y s kind wrong hw hf hc ⟨hdl.1,hdl.2.1⟩
 have hok3:=removalP_ok (f:=f) (c:=c) (d:=y) (s:=s) (e:=kindE kind wrong)
 have hin:=findE_in (f:=f) (d:=y) (s:=s)
 generalize removalP f c y s (kindE kind wrong)=r at *
 obtain ⟨x,e3⟩:=r
 by_cases he3:e3=0
 rotate_left
 ·simp [he3] at hA
  subst hA
  (try simp -implicitDefEqProofs (disch:=first|exact dd|fail)[Tryz.f97,h01.1,h01.2,he3]);(repeat'((with_reducible first|(refine Br.out ?_ ?_<;>intro h<;>(try(have h0:=h;simp only[bH]at h)))|refine AC_snd (c0 _ _ _) ?_|refine AC_snd (c00 _) ?_|refine AC_snd (c2 _ _ _ _) ?_|refine AC_snd (c3 _ _ _ _) ?_|refine AC_snd (cp _ _ _) ?_|fail)<;>(try simp -implicitDefEqProofs (disch:=first|exact dd|fail)[Tryz.f97,h01.1,h01.2,he3])))
 subst he3
 have h3:=hok3 rfl
 simp only at h3
 have hx:=hin h3.1
 rw [←h3.2.1] at hx h3
 simp only [not_true_eq_false,if_false] at hA
 have c4:=fun a b d=>impl_entries a b d f x hf hx
 have c6:=fun a b d g=>impl_changed_remove a b d g f y x s busy hf hdu h3.2.2 hb
 by_cases hk:kind=2
 ·subst hk
  by_cases h4:(entriesI f x).length=0
  ·rw [if_neg (fun H=>H.2 h4)] at hA
   generalize dropF f y s x busy=v at *
   obtain ⟨g,v⟩:=v
   simp only at hA c6
   generalize (if v=0 then g else f)=g2 at *
   subst hA
   generalize entriesI f x=E at *
   (try simp -implicitDefEqProofs (disch:=first|exact dd|fail)[Tryz.f97,h01.1,h01.2,h4]);(repeat'((with_reducible first|(refine Br.out ?_ ?_<;>intro h<;>(try(have h0:=h;simp only[bH]at h)))|refine AC_snd (c0 _ _ _) ?_|refine AC_snd (c00 _) ?_|refine AC_snd (c2 _ _ _ _) ?_|refine AC_snd (c3 _ _ _ _) ?_|refine AC_snd (c4 _ _ _) ?_|refine AC_snd (c6 _ _ _ _) ?_|refine AC_snd (cp _ _ _) ?_|fail)<;>(try simp -implicitDefEqProofs (disch:=first|exact dd|fail)[Tryz.f97,h01.1,h01.2,h4])))
  ·rw [if_pos ⟨rfl,h4⟩] at hA
   subst hA
   generalize entriesI f x=E at *
   (try simp -implicitDefEqProofs (disch:=first|exact dd|fail)[Tryz.f97,h01.1,h01.2,(by omega:(0:Int) < (E.length:Int)),eq_false (by omega:¬ (((E.length:Int):Int)≤0))]);(repeat'((with_reducible first|(refine Br.out ?_ ?_<;>intro h<;>(try(have h0:=h;simp only[bH]at h)))|refine AC_snd (c0 _ _ _) ?_|refine AC_snd (c00 _) ?_|refine AC_snd (c2 _ _ _ _) ?_|refine AC_snd (c3 _ _ _ _) ?_|refine AC_snd (c4 _ _ _) ?_|refine AC_snd (cp _ _ _) ?_|fail)<;>(try simp -implicitDefEqProofs (disch:=first|exact dd|fail)[Tryz.f97,h01.1,h01.2,(by omega:(0:Int) < (E.length:Int)),eq_false (by omega:¬ (((E.length:Int):Int)≤0))])))
 ·rw [if_neg (fun H=>hk H.1)] at hA
  generalize dropF f y s x busy=v at *
  obtain ⟨g,v⟩:=v
  simp only at hA c6
  generalize (if v=0 then g else f)=g2 at *
  subst hA
  (try simp -implicitDefEqProofs (disch:=first|exact dd|fail)[Tryz.f97,h01.1,h01.2,hk]);(repeat'((with_reducible first|(refine Br.out ?_ ?_<;>intro h<;>(try(have h0:=h;simp only[bH]at h)))|refine AC_snd (c0 _ _ _) ?_|refine AC_snd (c00 _) ?_|refine AC_snd (c2 _ _ _ _) ?_|refine AC_snd (c3 _ _ _ _) ?_|refine AC_snd (c6 _ _ _ _) ?_|refine AC_snd (cp _ _ _) ?_|fail)<;>(try simp -implicitDefEqProofs (disch:=first|exact dd|fail)[Tryz.f97,h01.1,h01.2,hk])))
theorem impl_RemoveFile (n1 n2 n3 n4 n5:Option Bool) (f:DFS) (c:DCred) (p:Str) (busy:List Int) (hs:SmF f) (hc:c.groups.length≤1048576) (hp:p.length≤1048576) (hb:busy.length≤1048576):Snd Tryz.prog 36 [fFS n1 n2 n3 f,fCred n4 c, .str p, .frz 1 n5 (busy.map ci)] (.tup [rFS (unmakeO f c p busy 1 6).1, .int .i64 (unmakeO f c p busy 1 6).2]) [.unk, .unk, .unk, .unk]:=Runs.snd (M:=M) (c:=⟨4,[4,5,8,9],[],[]⟩) tok ks mixed Tryz.func36 (p := []) (by kernel_rfl) (by rfl) (by rfl) <| by
 have c1:=fun a b d e g=>impl_removeObject a b d e g f c p busy 1 6 (by decide) hs hc hp hb
 generalize unmakeO f c p busy 1 6=r at *
 (try simp -implicitDefEqProofs (disch:=first|exact dd|fail)[Tryz.f36]);(repeat'((with_reducible first|(refine Br.out ?_ ?_<;>intro h<;>(try(have h0:=h;simp only[bH]at h)))|refine AC_snd (c1 _ _ _ _ _) ?_|fail)<;>(try simp -implicitDefEqProofs (disch:=first|exact dd|fail)[Tryz.f36])))
theorem impl_RemoveDir (n1 n2 n3 n4 n5:Option Bool) (f:DFS) (c:DCred) (p:Str) (busy:List Int) (hs:SmF f) (hc:c.groups.length≤1048576) (hp:p.length≤1048576) (hb:busy.length≤1048576):Snd Tryz.prog 32 [fFS n1 n2 n3 f,fCred n4 c, .str p, .frz 1 n5 (busy.map ci)] (.tup [rFS (unmakeO f c p busy 2 5).1, .int .i64 (unmakeO f c p busy 2 5).2]) [.unk, .unk, .unk, .unk]:=Runs.snd (M:=M) (c:=⟨4,[4,5,8,9],[],[]⟩) tok ks mixed Tryz.func32 (p := []) (by kernel_rfl) (by rfl) (by rfl) <| by
 have c1:=fun a b d e g=>impl_removeObject a b d e g f c p busy 2 5 (by decide) hs hc hp hb
 generalize unmakeO f c p busy 2 5=r at *
 (try simp -implicitDefEqProofs (disch:=first|exact dd|fail)[Tryz.f32]);(repeat'((with_reducible first|(refine Br.out ?_ ?_<;>intro h<;>(try(have h0:=h;simp only[bH]at h)))|refine AC_snd (c1 _ _ _ _ _) ?_|fail)<;>(try simp -implicitDefEqProofs (disch:=first|exact dd|fail)[Tryz.f32])))
end Go.Proofs.YtgopfdninbknpaaGreat
