import Derived.Test.YtgopfdninbknpaaGreatP13x
import Derived.Test.YtgopfdninbknpaaGreatP14l
namespace Go.Proofs.YtgopfdninbknpaaGreat
open Go.Fw
set_option linter.unusedVariables false
set_option linter.unusedSimpArgs false
set_option maxHeartbeats 1000000
set_option maxRecDepth 8000
noncomputable def renC (f:DFS) (c:DCred) (d1:Int) (x1:Int × Bool) (d2:Int) (x2:Int × Bool):Int:=
 if x1.2=false∨hasI f x1.1=false then 3
 else if mayI f c d1 3=false∨mayI f c d2 3=false then 2
 else if mayRemove c (inodeAt f d1).uid (inodeAt f d1).mode (inodeAt f x1.1).uid=false then 12
 else if isDirI f x1.1=true∧withinN (parentI f) x1.1 20 d2=true then 14
 else if x2.2=false∨x2.1=x1.1 then 0
 else if hasI f x2.1=false then 3
 else if isDirI f x1.1=true∧isDirI f x2.1=false then 5
 else if isDirI f x1.1=false∧isDirI f x2.1=true then 6
 else if mayRemove c (inodeAt f d2).uid (inodeAt f d2).mode (inodeAt f x2.1).uid=false then 12
 else if isDirI f x2.1=true∧(entriesI f x2.1).length≠0 then 10 else 0
noncomputable def renG (g:DFS) (d1:Int) (s1:Str) (d2:Int) (s2:Str) (i:Int):DFS × Int:=
 if (removeF g d1 s1).2=0 then addF (touchF (touchF (removeF g d1 s1).1 d1) d2) d2 s2 i else removeF g d1 s1
noncomputable def renI (f:DFS) (d1:Int) (s1:Str) (d2:Int) (s2:Str) (i j:Int) (is:Bool) (busy:List Int):DFS × Int:=
 if is=true then (if (dropF f d2 s2 j busy).2=0 then renG (dropF f d2 s2 j busy).1 d1 s1 d2 s2 i else dropF f d2 s2 j busy) else renG f d1 s1 d2 s2 i
noncomputable def renH (g:DFS) (d1:Int) (s1:Str) (d2:Int) (s2:Str) (i:Int):DFS × Int:=
 if (removeF g d1 s1).2=0 then (if (addF (removeF g d1 s1).1 d2 s2 i).2=0 then (touchF (touchF (addF (removeF g d1 s1).1 d2 s2 i).1 d1) d2,0) else addF (removeF g d1 s1).1 d2 s2 i) else removeF g d1 s1
noncomputable def renJ (f:DFS) (d1:Int) (s1:Str) (d2:Int) (s2:Str) (i j:Int) (is:Bool) (busy:List Int):DFS × Int:=
 if is=true then (if (removeF f d2 s2).2=0 then renH (unlinkF (removeF f d2 s2).1 j busy) d1 s1 d2 s2 i else removeF f d2 s2) else renH f d1 s1 d2 s2 i
theorem renG_H {g:DFS} {d1 d2 i:Int} {s1 s2:Str} (h1:0≤d1∧d1.toNat < g.inodes.length) (h2:0≤d2∧d2.toNat < g.inodes.length):(renG g d1 s1 d2 s2 i).2=(renH g d1 s1 d2 s2 i).2∧((renH g d1 s1 d2 s2 i).2=0→(renG g d1 s1 d2 s2 i).1=(renH g d1 s1 d2 s2 i).1):=by
 have hk:=removeF_keeps (s:=s1) h1
 unfold renG renH
 by_cases e:(removeF g d1 s1).2=0
 ·rw [if_pos e,if_pos e]
  have hl:=hk.nl
  generalize (removeF g d1 s1).1=x at *
  have ht:=touch_len (f:=x) (d:=d1)
  rw [Go.Fw.touch_add (by rw [ht];omega) ⟨h2.1,by rw [ht];omega⟩,Go.Fw.touch_add (by omega) ⟨h2.1,by omega⟩]
  split
  ·rename_i e2
   exact ⟨e2,fun _=>rfl⟩
  ·rename_i e2
   exact ⟨rfl,fun h=>absurd h e2⟩
 ·rw [if_neg e,if_neg e]
  exact ⟨rfl,fun h=>absurd h e⟩
theorem touch_renH {g:DFS} {d1 d2 i:Int} {s1 s2:Str} (h1:0≤d1∧d1.toNat < g.inodes.length) (h2:0≤d2∧d2.toNat < g.inodes.length):(renH (touchF g d2) d1 s1 d2 s2 i).2=(renH g d1 s1 d2 s2 i).2∧((renH g d1 s1 d2 s2 i).2=0→(renH (touchF g d2) d1 s1 d2 s2 i).1=(renH g d1 s1 d2 s2 i).1):=by
 have hk:=removeF_keeps (s:=s1) h1
 unfold renH
 rw [touch_remove h2.2 h1]
 by_cases e:(removeF g d1 s1).2=0
 ·rw [if_pos e,if_pos e]
  have hl:=hk.nl
  generalize (removeF g d1 s1).1=x at *
  have hk2:=addF_keeps (f:=x) (s:=s2) (i:=i) (d:=d2) ⟨h2.1,by omega⟩
  simp only
  rw [Go.Fw.touch_add (by omega) ⟨h2.1,by omega⟩]
  by_cases e2:(addF x d2 s2 i).2=0
  ·rw [if_pos e2,if_pos e2]
   refine ⟨rfl,fun _ => ?_⟩
   have hl2:=hk2.nl
   generalize (addF x d2 s2 i).1=y at *
   have a1:d1.toNat < y.inodes.length:=by omega
   have a2:d2.toNat < y.inodes.length:=by omega
   simp only
   rw [touch_comm a2 a1,touch_twice (by rw [touch_len];exact a2)]
  ·rw [if_neg e2,if_neg e2]
   exact ⟨rfl,fun h=>absurd h e2⟩
 ·rw [if_neg e,if_neg e]
  exact ⟨rfl,fun h=>absurd h e⟩
theorem unlink_len {f:DFS} {j:Int} {busy:List Int}:(unlinkF f j busy).inodes.length=f.inodes.length:=by
 unfold unlinkF
 split<;>simp [freeF,unlinkS,setN]
theorem renI_J {f:DFS} {d1 d2 i j:Int} {s1 s2:Str} {is:Bool} {busy:List Int} (h1:0≤d1∧d1.toNat < f.inodes.length) (h2:0≤d2∧d2.toNat < f.inodes.length) (hj:is=true→j.toNat < f.inodes.length∧j.toNat≠d2.toNat) :
  (renI f d1 s1 d2 s2 i j is busy).2=(renJ f d1 s1 d2 s2 i j is busy).2∧((renJ f d1 s1 d2 s2 i j is busy).2=0→(renI f d1 s1 d2 s2 i j is busy).1=(renJ f d1 s1 d2 s2 i j is busy).1):=by
 unfold renI renJ
 cases is with
 | false=>exact renG_H h1 h2
 | true=>
  have hj:=hj rfl
  have hk:=removeF_keeps (s:=s2) h2
  simp only [if_true]
  unfold dropF
  by_cases e:(removeF f d2 s2).2=0
  ·rw [if_pos e,if_pos e]
   simp only [if_true]
   have hl:=hk.nl
   generalize (removeF f d2 s2).1=x at *
   rw [touch_unlink (by omega) (by omega) hj.2]
   have hl2:=unlink_len (f:=x) (j:=j) (busy:=busy)
   generalize unlinkF x j busy=y at *
   have a1:0≤d1∧d1.toNat < y.inodes.length:=⟨h1.1,by omega⟩
   have a2:0≤d2∧d2.toNat < y.inodes.length:=⟨h2.1,by omega⟩
   have b1:=renG_H (s1:=s1) (s2:=s2) (i:=i) (g:=touchF y d2) (d1:=d1) (d2:=d2) ⟨h1.1,by rw [touch_len];exact a1.2⟩ ⟨h2.1,by rw [touch_len];exact a2.2⟩
   have b2:=touch_renH (s1:=s1) (s2:=s2) (i:=i) a1 a2
   exact ⟨b1.1.trans b2.1,fun h=>(b1.2 (b2.1.trans h)).trans (b2.2 h)⟩
  ·rw [if_neg e,if_neg e,if_neg e]
   exact ⟨rfl,fun h=>absurd h e⟩
theorem drop_has {f:DFS} {d j:Nat} {s:Str} {busy:List Int} (hf:IsFS f) (hd:hasI f d=true) (hj:hasI f j=true) (h0:(dropF f d s j busy).2=0) (k:Nat) (hk:k≠j) (hh:hasI f k=true):hasI (dropF f d s j busy).1 k=true:=by
 have hdl:=hasI_lt hd
 have hjl:=hasI_lt hj
 have hkp:=removeF_keeps (f:=f) (d:=d) (s:=s) ⟨hdl.1,by rw [hf.ni];omega⟩
 unfold dropF at h0 ⊢
 by_cases e:(removeF f d s).2=0
 rotate_left
 ·rw [if_neg e] at h0;exact absurd h0 e
 rw [if_pos e]
 have hg:=hf.remove hd e
 have g1:hasI (removeF f d s).1 k=true:=by rw [hkp.has];exact hh
 simp only
 generalize (removeF f d s).1=g at *
 have hn:=hg.ni
 have t1:hasI (touchF g d) k=true:=by rw [touch_has (by omega)];exact g1
 have tn:=touch_len (f:=g) (d:=(d:Int))
 generalize touchF g d=x at *
 have hne:(k:Int).toNat≠(j:Int).toNat:=by simpa using hk
 have u1:hasI (unlinkS x j) k=true:=by
  unfold hasI unlinkS at *
  rw [setN_at (by omega),if_neg hne]
  exact t1
 unfold unlinkF
 split
 ·have hl:(unlinkS x j).inodes.length=x.inodes.length:=by simp [unlinkS,setN]
  generalize unlinkS x j=y at *
  unfold hasI at *
  have e1:inodeAt (freeF y j) k=inodeAt y k:=by
   unfold freeF
   rw [inodeAt_set (by omega),if_neg hne]
  rw [e1]
  exact u1
 ·exact u1
theorem impl_renaming1 (n1 n2 n3 n4:Option Bool) (f:DFS) (c:DCred) (d i:Nat) (s:Str) (b:Bool) (hn:f.inodes.length=20) (hd:d < 20) (hi:i < 20) (hc:c.groups.length≤1048576):Snd Tryz.prog 184 [.agg [.int .i64 d, .str s, .int .i64 i, .bool b], .fptr [.int .i64 c.uid, .int .i64 c.gid, .frz 1 n4 (c.groups.map ci)], .fptr [pFS n1 n2 n3 f]] (.bool (mayRemove c (inodeAt f d).uid (inodeAt f d).mode (inodeAt f i).uid)) [.unk, .unk, .unk]:=Runs.snd (M:=M) (c:=⟨1,[1,2,3,4],[],[]⟩) tok ks mixed Tryz.func184 (p := []) (by kernel_rfl) (by rfl) (by rfl) <| by
 have hd1:d < f.inodes.length:=by omega
 have hi1:i < f.inodes.length:=by omega
 rw [inodeAt_nat hd1,inodeAt_nat hi1]
 have c1:=fun a=>impl_MayRemove a c f.inodes[d].uid f.inodes[d].mode f.inodes[i].uid hc
 (try simp -implicitDefEqProofs (disch:=first|exact dd|fail)[Tryz.f184,hd1,hi1,cInode]);(repeat'((with_reducible first|(refine Br.out ?_ ?_<;>intro h<;>(try(have h0:=h;simp only[bH]at h)))|refine AC_snd (c1 _) ?_|fail)<;>(try simp -implicitDefEqProofs (disch:=first|exact dd|fail)[Tryz.f184,hd1,hi1,cInode])))
theorem impl_renaming (n1 n2 n3 n4:Option Bool) (f:DFS) (c:DCred) (d1 i1 d2 i2:Nat) (s1 s2:Str) (b1 b2:Bool) (hf:IsFS f) (h1:d1 < 20) (h2:i1 < 20) (h3:d2 < 20) (h4:i2 < 20) (hc:c.groups.length≤1048576):Snd Tryz.prog 105 [pFS n1 n2 n3 f,fCred n4 c, .agg [.int .i64 d1, .str s1, .int .i64 i1, .bool b1], .agg [.int .i64 d2, .str s2, .int .i64 i2, .bool b2]] (.int .i64 (renC f c d1 (i1,b1) d2 (i2,b2))) [.unk, .unk, .unk, .unk]:=Runs.snd (M:=M) (c:=⟨4,[4,5,6,7,8,9,11,22,37,42,55,66,72,84,96,101],[],[]⟩) tok ks mixed Tryz.func105 (p := []) (by kernel_rfl) (by rfl) (by rfl) <| by
 have hn:=hf.ni
 have hs:=SmF.of hf
 have r1:=fun a b e g=>impl_renaming1 a b e g f c d1 i1 s1 b1 hn h1 h2 hc
 have r2:=fun a b e g=>impl_renaming1 a b e g f c d2 i2 s2 b2 hn h3 h4 hc
 have k1:=fun a b e=>impl_has a b e f i1 hn
 have k2:=fun a b e=>impl_has a b e f i2 hn
 have m1:=fun a b e g=>impl_may a b e g f c d1 3 hn hs hc
 have m2:=fun a b e g=>impl_may a b e g f c d2 3 hn hs hc
 have p1:=fun a b e=>impl_isDir a b e f i1 hn
 have p2:=fun a b e=>impl_isDir a b e f i2 hn
 have w:=fun a b e=>impl_within a b e f i1 d2 hf
 rw [within_21 (fun e=>parentI_in) ⟨by omega,by omega⟩] at w
 have en:=fun a b e=>impl_entries a b e f i2 hf ⟨by omega,by omega⟩
 obtain ⟨A,hA⟩:∃ A,A=renC f c d1 (i1,b1) d2 (i2,b2):=⟨_,rfl⟩
 rw [←hA]
 unfold renC at hA
 simp only at hA
 generalize hasI f i1=x1 at *
 generalize hasI f i2=x2 at *
 generalize mayI f c d1 3=x3 at *
 generalize mayI f c d2 3=x4 at *
 generalize mayRemove c (inodeAt f d1).uid (inodeAt f d1).mode (inodeAt f i1).uid=x5 at *
 generalize mayRemove c (inodeAt f d2).uid (inodeAt f d2).mode (inodeAt f i2).uid=x6 at *
 generalize isDirI f i1=x7 at *
 generalize isDirI f i2=x8 at *
 generalize withinN (parentI f) i1 20 d2=x9 at *
 generalize entriesI f i2=E at *
 (try simp -implicitDefEqProofs (disch:=first|exact dd|fail)[Tryz.f105]);(repeat'((with_reducible first|(refine Br.out ?_ ?_<;>intro h<;>(try(have h0:=h;simp only[bH]at h)))|refine AC_snd (k1 _ _ _) ?_|refine AC_snd (k2 _ _ _) ?_|refine AC_snd (m1 _ _ _ _) ?_|refine AC_snd (m2 _ _ _ _) ?_|refine AC_snd (r1 _ _ _ _) ?_|refine AC_snd (r2 _ _ _ _) ?_|refine AC_snd (p1 _ _ _) ?_|refine AC_snd (p2 _ _ _) ?_|refine AC_snd (w _ _ _) ?_|refine AC_snd (en _ _ _) ?_|fail)<;>(try simp -implicitDefEqProofs (disch:=first|exact dd|fail)[Tryz.f105])))
 all_goals first | (rw [hA];simp [*];done) | grind
theorem impl_endOf (n1 n2 n3 n4:Option Bool) (f:DFS) (c:DCred) (p:Str) (hs:SmF f) (hc:c.groups.length≤1048576) (hp:p.length≤1048576):Snd Tryz.prog 104 [fFS n1 n2 n3 f,fCred n4 c, .str p]
  (.tup [.agg (if (resolveQ f c p).2.2=0 then [.int .i64 (resolveQ f c p).1, .str (resolveQ f c p).2.1, .int .i64 (findE (entriesI f (resolveQ f c p).1) (resolveQ f c p).2.1).1, .bool (findE (entriesI f (resolveQ f c p).1) (resolveQ f c p).2.1).2] else [.int .i64 0, .str [], .int .i64 0, .bool false]), .int .i64 (resolveQ f c p).2.2]) [.unk, .unk, .unk]:=Runs.snd (M:=M) (c:=⟨3,[3,4,6,7,8,9,10,11,12,22],[],[]⟩) tok ks mixed Tryz.func104 (p := []) (by kernel_rfl) (by rfl) (by rfl) <| by
 have c2:=fun a b d e=>impl_ResolveParent a b d e f c p hs hc hp
 have hok2:=resolveQ_ok (f:=f) (c:=c) (p:=p)
 generalize resolveQ f c p=w at *
 obtain ⟨y,s,e2⟩:=w
 by_cases he2:e2=0
 rotate_left
 ·simp only [he2,if_false]
  (try simp -implicitDefEqProofs (disch:=first|exact dd|fail)[Tryz.f104,he2]);(repeat'((with_reducible first|(refine Br.out ?_ ?_<;>intro h<;>(try(have h0:=h;simp only[bH]at h)))|refine AC_snd (c2 _ _ _ _) ?_|fail)<;>(try simp -implicitDefEqProofs (disch:=first|exact dd|fail)[Tryz.f104,he2])))
 subst he2
 have h2:=hok2 rfl
 simp only at h2 ⊢
 have hf:=tr_iff.1 h2.1
 have hdl:=isDirI_lt h2.2.2.1
 have c3:=fun a b d=>impl_find a b d f y s hf hdl
 generalize findE (entriesI f y) s=r at *
 simp only [if_true]
 (try simp -implicitDefEqProofs (disch:=first|exact dd|fail)[Tryz.f104]);(repeat'((with_reducible first|(refine Br.out ?_ ?_<;>intro h<;>(try(have h0:=h;simp only[bH]at h)))|refine AC_snd (c2 _ _ _ _) ?_|refine AC_snd (c3 _ _ _) ?_|fail)<;>(try simp -implicitDefEqProofs (disch:=first|exact dd|fail)[Tryz.f104])))
theorem impl_renG (g:DFS) (d1 d2 i:Nat) (hd1:d1 < g.inodes.length) (hd2:d2 < g.inodes.length):touchF (touchF g d1) d2=⟨g.tick,g.quotas,(g.inodes.set d1 { g.inodes[d1] with tick:=g.tick }).set d2 { (g.inodes.set d1 { g.inodes[d1] with tick:=g.tick })[d2]'(by simpa using hd2) with tick:=g.tick },g.data⟩:=by
 have e1:touchF g d1=⟨g.tick,g.quotas,g.inodes.set d1 { g.inodes[d1] with tick:=g.tick },g.data⟩:=by
  unfold touchF setN
  rw [inodeAt_nat hd1]
  simp
 rw [e1]
 unfold touchF setN
 rw [inodeAt_nat (f:=⟨g.tick,g.quotas,g.inodes.set d1 { g.inodes[d1] with tick:=g.tick },g.data⟩) (by simpa using hd2)]
 simp
theorem impl_RenamePath1 (n1:Option Bool) (f:DFS) (d1 d2 i j:Nat) (s1 s2:Str) (is:Bool) (busy:List Int) (hf:IsFS f) (h1:hasI f d1=true) (h2:hasI f d2=true) (hi:i < 20) (hj:is=true→hasI f j=true∧j≠d1∧j≠d2) (hl:s2.length≤1048576) (hb:busy.length≤1048576) :
  Snd Tryz.prog 106 [wFS f, .fptr [.int .i64 d2, .str s2, .int .i64 j, .bool is], .fptr [.frz 1 n1 (busy.map ci)], .fptr [.int .i64 d1, .str s1, .int .i64 i, .bool true]] (.int .i64 (renI f d1 s1 d2 s2 i j is busy).2) [wFS (renI f d1 s1 d2 s2 i j is busy).1, .unk, .unk, .unk]:=Runs.snd (M:=M) (c:=⟨1,[1,2,3,5,6,7,9,20,29],[],[]⟩) tok ks mixed Tryz.func106 (p := [0]) (by kernel_rfl) (by rfl) (by rfl) <| by
 -- what is common: the entry is removed and added
 have cont:∀ g:DFS,IsFS g→hasI g d1=true→hasI g d2=true→∃ gr e,renG g d1 s1 d2 s2 i=(gr,e)∧Snd Tryz.prog 108 [wFS g, .int .i64 d1, .str s1] (.int .i64 (removeF g d1 s1).2) [wFS (removeF g d1 s1).1, .unk, .unk]∧
   (((removeF g d1 s1).2≠0∧(gr,e)=removeF g d1 s1)∨((removeF g d1 s1).2=0∧∃ L L2:List DInode,∃ hL1:d1 < (removeF g d1 s1).1.inodes.length,∃ hL2:d2 < L.length,
    ((removeF g d1 s1).1.inodes.map cInode).set d1 (cInode { (removeF g d1 s1).1.inodes[d1] with tick:=(removeF g d1 s1).1.tick })=L.map cInode∧L.length=(removeF g d1 s1).1.inodes.length∧
    (L.map cInode).set d2 (cInode { L[d2] with tick:=(removeF g d1 s1).1.tick })=L2.map cInode∧L2.length=L.length∧
    Snd Tryz.prog 86 [wFS ⟨(removeF g d1 s1).1.tick,(removeF g d1 s1).1.quotas,L2,(removeF g d1 s1).1.data⟩, .int .i64 d2, .str s2, .int .i64 i] (.int .i64 e) [wFS gr, .unk, .unk, .unk])):=by
  intro g hg g1 g2
  have k1:=hasI_lt g1
  have k2:=hasI_lt g2
  have hk:=removeF_keeps (f:=g) (d:=d1) (s:=s1) ⟨k1.1,by rw [hg.ni];omega⟩
  refine ⟨(renG g d1 s1 d2 s2 i).1,(renG g d1 s1 d2 s2 i).2,rfl,impl_remove g d1 s1 (SmF.of hg) hg g1,?_⟩
  by_cases he:(removeF g d1 s1).2=0
  ·right
   refine ⟨he,?_⟩
   have hx:=hg.remove g1 he
   have x1:hasI (removeF g d1 s1).1 d1=true:=by rw [hk.has];exact g1
   have x2:hasI (removeF g d1 s1).1 d2=true:=by rw [hk.has];exact g2
   have hr:renG g d1 s1 d2 s2 i=addF (touchF (touchF (removeF g d1 s1).1 d1) d2) d2 s2 i:=by unfold renG;rw [if_pos he]
   rw [hr]
   generalize (removeF g d1 s1).1=x at *
   have hl1:d1 < x.inodes.length:=by rw [hx.ni];omega
   have hl2:d2 < x.inodes.length:=by rw [hx.ni];omega
   have t1:=hx.touch x1
   have t1h:hasI (touchF x d1) d2=true:=by rw [touch_has (by rw [hx.ni];omega)];exact x2
   have t2:=t1.touch t1h
   have t2h:hasI (touchF (touchF x d1) d2) d2=true:=by rw [touch_has (by rw [t1.ni];omega)];exact t1h
   have ca:=impl_add (touchF (touchF x d1) d2) d2 i s2 (SmF.of t2) t2 t2h hl
   rw [impl_renG x d1 d2 i hl1 hl2] at ca ⊢
   refine ⟨x.inodes.set d1 { x.inodes[d1] with tick:=x.tick },_,hl1,by simpa using hl2,List.map_set.symm,List.length_set,List.map_set.symm,List.length_set,ca⟩
  ·left
   refine ⟨he,?_⟩
   unfold renG
   rw [if_neg he]
 cases is with
 | false=>
  obtain ⟨gr,e,q1,q2,q3⟩:=cont f hf h1 h2
  have hI:renI f d1 s1 d2 s2 i j false busy=(gr,e):=by unfold renI;rw [if_neg (by simp)];exact q1
  rw [hI]
  generalize removeF f d1 s1=rr at *
  obtain ⟨x,v⟩:=rr
  simp only at q2 q3
  rcases q3 with ⟨a1,a2⟩ | ⟨a1,L,L2,hL1,hL2,a2,a3,a4,a5,a6⟩
  ·cases a2
   (try simp -implicitDefEqProofs (disch:=first|exact dd|fail)[Tryz.f106,a1]);(repeat'((with_reducible first|(refine Br.out ?_ ?_<;>intro h<;>(try(have h0:=h;simp only[bH]at h)))|refine AC_snd (q2) ?_|fail)<;>(try simp -implicitDefEqProofs (disch:=first|exact dd|fail)[Tryz.f106,a1])))
  ·subst a1
   simp only [cInode] at a2 a4
   (try simp -implicitDefEqProofs (disch:=first|exact dd|fail)[Tryz.f106,hL1,hL2,a2,a3,a4,a5,cInode]);(repeat'((with_reducible first|(refine Br.out ?_ ?_<;>intro h<;>(try(have h0:=h;simp only[bH]at h)))|refine AC_snd (q2) ?_|refine AC_snd (a6) ?_|fail)<;>(try simp -implicitDefEqProofs (disch:=first|exact dd|fail)[Tryz.f106,hL1,hL2,a2,a3,a4,a5,cInode])))
 | true=>
  obtain ⟨j1,j2,j3⟩:=hj rfl
  have k1:=hasI_lt h1
  have k2:=hasI_lt h2
  have kj:=hasI_lt j1
  have cd:=fun a=>impl_drop a f d2 j s2 busy hf h2 j1 hb
  by_cases hd:(dropF f d2 s2 j busy).2=0
  rotate_left
  ·have hI:renI f d1 s1 d2 s2 i j true busy=dropF f d2 s2 j busy:=by unfold renI;rw [if_pos rfl,if_neg hd]
   rw [hI]
   generalize dropF f d2 s2 j busy=D at *
   obtain ⟨x,v⟩:=D
   (try simp -implicitDefEqProofs (disch:=first|exact dd|fail)[Tryz.f106,hd]);(repeat'((with_reducible first|(refine Br.out ?_ ?_<;>intro h<;>(try(have h0:=h;simp only[bH]at h)))|refine AC_snd (cd _) ?_|fail)<;>(try simp -implicitDefEqProofs (disch:=first|exact dd|fail)[Tryz.f106,hd])))
  have hg:=hf.drop h2 j1 hd
  have hin:∀ k:Nat,k≠j→hasI f k=true→hasI (dropF f d2 s2 j busy).1 k=true:=drop_has hf h2 j1 hd
  obtain ⟨gr,e,q1,q2,q3⟩:=cont _ hg (hin d1 (fun e=>j2 e.symm) h1) (hin d2 (fun e=>j3 e.symm) h2)
  have hI:renI f d1 s1 d2 s2 i j true busy=(gr,e):=by unfold renI;rw [if_pos rfl,if_pos hd];exact q1
  rw [hI]
  rw [hd] at cd
  generalize (dropF f d2 s2 j busy).1=D at *
  generalize removeF D d1 s1=rr at *
  obtain ⟨x,v⟩:=rr
  simp only at q2 q3
  rcases q3 with ⟨a1,a2⟩ | ⟨a1,L,L2,hL1,hL2,a2,a3,a4,a5,a6⟩
  ·cases a2
   (try simp -implicitDefEqProofs (disch:=first|exact dd|fail)[Tryz.f106,a1]);(repeat'((with_reducible first|(refine Br.out ?_ ?_<;>intro h<;>(try(have h0:=h;simp only[bH]at h)))|refine AC_snd (cd _) ?_|refine AC_snd (q2) ?_|fail)<;>(try simp -implicitDefEqProofs (disch:=first|exact dd|fail)[Tryz.f106,a1])))
  ·subst a1
   simp only [cInode] at a2 a4
   (try simp -implicitDefEqProofs (disch:=first|exact dd|fail)[Tryz.f106,hL1,hL2,a2,a3,a4,a5,cInode]);(repeat'((with_reducible first|(refine Br.out ?_ ?_<;>intro h<;>(try(have h0:=h;simp only[bH]at h)))|refine AC_snd (cd _) ?_|refine AC_snd (q2) ?_|refine AC_snd (a6) ?_|fail)<;>(try simp -implicitDefEqProofs (disch:=first|exact dd|fail)[Tryz.f106,hL1,hL2,a2,a3,a4,a5,cInode])))
end Go.Proofs.YtgopfdninbknpaaGreat
