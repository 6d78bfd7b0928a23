import Derived.Test.YtgopfdninbknpaaGreatP14r
namespace Go.Proofs.YtgopfdninbknpaaGreat
open Go.Fw
set_option linter.unusedVariables false
set_option linter.unusedSimpArgs false
set_option maxHeartbeats 1000000
set_option maxRecDepth 8000
noncomputable def renameO (f:DFS) (c:DCred) (p q:Str) (busy:List Int):DFS × Int:=
 if (resolveQ f c p).2.2≠0 then (f,(resolveQ f c p).2.2) else if (resolveQ f c q).2.2≠0 then (f,(resolveQ f c q).2.2)
 else if renC f c (resolveQ f c p).1 (findE (entriesI f (resolveQ f c p).1) (resolveQ f c p).2.1) (resolveQ f c q).1 (findE (entriesI f (resolveQ f c q).1) (resolveQ f c q).2.1)≠0 then (f,renC f c (resolveQ f c p).1 (findE (entriesI f (resolveQ f c p).1) (resolveQ f c p).2.1) (resolveQ f c q).1 (findE (entriesI f (resolveQ f c q).1) (resolveQ f c q).2.1))
 else if (findE (entriesI f (resolveQ f c q).1) (resolveQ f c q).2.1).2=true∧(findE (entriesI f (resolveQ f c q).1) (resolveQ f c q).2.1).1=(findE (entriesI f (resolveQ f c p).1) (resolveQ f c p).2.1).1 then (f,0)
 else (if (renJ f (resolveQ f c p).1 (resolveQ f c p).2.1 (resolveQ f c q).1 (resolveQ f c q).2.1 (findE (entriesI f (resolveQ f c p).1) (resolveQ f c p).2.1).1 (findE (entriesI f (resolveQ f c q).1) (resolveQ f c q).2.1).1 (findE (entriesI f (resolveQ f c q).1) (resolveQ f c q).2.1).2 busy).2=0 then (renJ f (resolveQ f c p).1 (resolveQ f c p).2.1 (resolveQ f c q).1 (resolveQ f c q).2.1 (findE (entriesI f (resolveQ f c p).1) (resolveQ f c p).2.1).1 (findE (entriesI f (resolveQ f c q).1) (resolveQ f c q).2.1).1 (findE (entriesI f (resolveQ f c q).1) (resolveQ f c q).2.1).2 busy).1 else f,
  (renJ f (resolveQ f c p).1 (resolveQ f c p).2.1 (resolveQ f c q).1 (resolveQ f c q).2.1 (findE (entriesI f (resolveQ f c p).1) (resolveQ f c p).2.1).1 (findE (entriesI f (resolveQ f c q).1) (resolveQ f c q).2.1).1 (findE (entriesI f (resolveQ f c q).1) (resolveQ f c q).2.1).2 busy).2)
theorem renC_ok {f:DFS} {c:DCred} {d1 d2:Int} {s1 s2:Str} (h:renC f c d1 (findE (entriesI f d1) s1) d2 (findE (entriesI f d2) s2)=0) (hne:¬ ((findE (entriesI f d2) s2).2=true∧(findE (entriesI f d2) s2).1=(findE (entriesI f d1) s1).1)) (h1:isDirI f d1=true) (h2:isDirI f d2=true) :
  (findE (entriesI f d1) s1).2=true∧hasI f (findE (entriesI f d1) s1).1=true∧((findE (entriesI f d2) s2).2=true→hasI f (findE (entriesI f d2) s2).1=true∧(findE (entriesI f d2) s2).1≠d1∧(findE (entriesI f d2) s2).1≠d2):=by
 unfold renC at h
 split at h
 ·cases h
 rename_i g1
 have g1:(findE (entriesI f d1) s1).2=true∧hasI f (findE (entriesI f d1) s1).1=true:=by simpa using g1
 refine ⟨g1.1,g1.2,fun hb => ?_⟩
 split at h
 ·cases h
 split at h
 ·cases h
 split at h
 ·cases h
 split at h
 ·rename_i g
  rcases g with g | g
  ·rw [hb] at g;cases g
  ·exact absurd ⟨hb,g⟩ hne
 split at h
 ·cases h
 rename_i g2
 refine ⟨by simpa using g2,?_⟩
 split at h
 ·cases h
 split at h
 ·cases h
 split at h
 ·cases h
 split at h
 ·cases h
 rename_i g3
 have hz:isDirI f (findE (entriesI f d2) s2).1=true→(entriesI f (findE (entriesI f d2) s2).1).length=0:=fun hd=>by
  rcases Nat.eq_zero_or_pos (entriesI f (findE (entriesI f d2) s2).1).length with h0 | h0
  ·exact h0
  ·exact absurd ⟨hd,by omega⟩ g3
 have hpos:∀ {d:Int} {s:Str},(findE (entriesI f d) s).2=true→(entriesI f d).length≠0:=fun {d s} hd h0=>by
  rw [List.length_eq_zero_iff.1 h0] at hd
  simp [findE] at hd
 constructor
 ·intro e
  rw [e] at hz
  exact hpos g1.1 (hz h1)
 ·intro e
  have:=hz (by rw [e];exact h2)
  rw [e] at this
  exact hpos hb this
theorem unlink_has {f:DFS} {j k:Int} {busy:List Int} (hj:j.toNat < f.inodes.length) (hne:k.toNat≠j.toNat):hasI (unlinkF f j busy) k=hasI f k:=by
 have u1:hasI (unlinkS f j) k=hasI f k:=by
  unfold hasI unlinkS
  rw [setN_at hj,if_neg hne]
 unfold unlinkF
 split
 ·have hl:(unlinkS f j).inodes.length=f.inodes.length:=by simp [unlinkS,setN]
  rw [←u1]
  generalize unlinkS f j=y at *
  unfold hasI
  have e1:inodeAt (freeF y j) k=inodeAt y k:=by
   unfold freeF
   rw [inodeAt_set (by omega),if_neg hne]
  rw [e1]
 ·exact u1
theorem renameO_fs {f:DFS} {c:DCred} {p q:Str} {l:List Int}:(renameO f c p q l).1=f∨IsFS (renameO f c p q l).1:=by
 have hok:=resolveQ_ok (f:=f) (c:=c) (p:=p)
 have hok2:=resolveQ_ok (f:=f) (c:=c) (p:=q)
 unfold renameO
 generalize resolveQ f c p=w at *
 generalize resolveQ f c q=w2 at *
 obtain ⟨d1,s1,e1⟩:=w
 obtain ⟨d2,s2,e2⟩:=w2
 simp only at hok hok2 ⊢
 split
 ·exact .inl rfl
 rename_i g1
 have h1:=hok (Classical.not_not.1 g1)
 split
 ·exact .inl rfl
 rename_i g2
 have h2:=hok2 (Classical.not_not.1 g2)
 split
 ·exact .inl rfl
 rename_i g3
 split
 ·exact .inl rfl
 rename_i g4
 have hr:=renC_ok (Classical.not_not.1 g3) g4 h1.2.2.1 h2.2.2.1
 have hf:=tr_iff.1 h1.1
 have hu1:=isDir_use h1.2.2.1
 have hu2:=isDir_use h2.2.2.1
 have k1:=hasI_lt hu1
 have k2:=hasI_lt hu2
 have hin2:=findE_in (f:=f) (d:=d2) (s:=s2)
 simp only
 split
 ·rename_i g5
  right
  generalize findE (entriesI f d1) s1=x1 at *
  generalize findE (entriesI f d2) s2=x2 at *
  obtain ⟨i,b1⟩:=x1
  obtain ⟨j,b2⟩:=x2
  simp only at *
  have cont:∀ g:DFS,IsFS g→hasI g d1=true→hasI g d2=true→(renH g d1 s1 d2 s2 i).2=0→IsFS (renH g d1 s1 d2 s2 i).1:=by
   intro g hg q1 q2 q3
   have hk:=removeF_keeps (f:=g) (d:=d1) (s:=s1) ⟨k1.1,by rw [hg.ni];omega⟩
   unfold renH at q3 ⊢
   by_cases e:(removeF g d1 s1).2=0
   rotate_left
   ·rw [if_neg e] at q3;exact absurd q3 e
   rw [if_pos e] at q3 ⊢
   have hx:=hg.remove q1 e
   have x2:hasI (removeF g d1 s1).1 d2=true:=by rw [hk.has];exact q2
   have x1:hasI (removeF g d1 s1).1 d1=true:=by rw [hk.has];exact q1
   by_cases e2:(addF (removeF g d1 s1).1 d2 s2 i).2=0
   rotate_left
   ·rw [if_neg e2] at q3;exact absurd q3 e2
   rw [if_pos e2]
   have hk2:=addF_keeps (f:=(removeF g d1 s1).1) (d:=d2) (s:=s2) (i:=i) ⟨k2.1,by rw [hx.ni];omega⟩
   have hy:=hx.add (SmF.of hx) x2 e2
   have t1:=hy.touch (i:=d1) (by rw [hk2.has];exact x1)
   exact t1.touch (by rw [touch_has (by rw [hy.ni];omega),hk2.has];exact x2)
  cases b2 with
  | false=>
   unfold renJ at g5 ⊢
   rw [if_neg (by simp)] at g5 ⊢
   exact cont f hf hu1 hu2 g5
  | true=>
   obtain ⟨-,-,hr3⟩:=hr
   obtain ⟨r1,r2,r3⟩:=hr3 rfl
   have kj:=hasI_lt r1
   unfold renJ at g5 ⊢
   rw [if_pos rfl] at g5 ⊢
   have hk:=removeF_keeps (f:=f) (d:=d2) (s:=s2) ⟨k2.1,by rw [hf.ni];omega⟩
   by_cases e:(removeF f d2 s2).2=0
   rotate_left
   ·rw [if_neg e] at g5;exact absurd g5 e
   rw [if_pos e] at g5 ⊢
   have hx:=hf.remove hu2 e
   have xj:hasI (removeF f d2 s2).1 j=true:=by rw [hk.has];exact r1
   have hg:=hx.unlink (busy:=l) xj
   exact cont _ hg (by rw [unlink_has (by rw [hx.ni];omega) (by omega),hk.has];exact hu1) (by rw [unlink_has (by rw [hx.ni];omega) (by omega),hk.has];exact hu2) g5
 ·exact .inl rfl
theorem impl_changed_rename (n1 n2 n3 n5:Option Bool) (f:DFS) (d1 d2 i j:Int) (s1 s2:Str) (is:Bool) (busy:List Int) (hf:IsFS f) (h1:hasI f d1=true) (h2:hasI f d2=true) (hi:0≤i∧i < 20) (hj0:0≤j∧j < 20) (hj:is=true→hasI f j=true∧j≠d1∧j≠d2) (hl:s2.length≤1048576) (hb:busy.length≤1048576) :
  Snd Tryz.prog 82 [fFS n1 n2 n3 f, .fn 106 [.fptr [.int .i64 d2, .str s2, .int .i64 j, .bool is], .fptr [.frz 1 n5 (busy.map ci)], .fptr [.int .i64 d1, .str s1, .int .i64 i, .bool true]]] (.tup [rFS (if (renJ f d1 s1 d2 s2 i j is busy).2=0 then (renJ f d1 s1 d2 s2 i j is busy).1 else f), .int .i64 (renJ f d1 s1 d2 s2 i j is busy).2]) [.unk, .unk]:=Runs.snd (M:=M) (c:=⟨2,[2,4,5,6,7,13],[],[]⟩) tok ks mixed Tryz.func82 (p := []) (by kernel_rfl) (by rfl) (by rfl) <| by
 have k1:=hasI_lt h1
 have k2:=hasI_lt h2
 have hn:=hf.ni
 obtain ⟨a,rfl⟩:=Int.eq_ofNat_of_zero_le k1.1
 obtain ⟨b,rfl⟩:=Int.eq_ofNat_of_zero_le k2.1
 obtain ⟨x,rfl⟩:=Int.eq_ofNat_of_zero_le hi.1
 obtain ⟨y,rfl⟩:=Int.eq_ofNat_of_zero_le hj0.1
 have hc:=impl_RenamePath1 n5 f a b x y s1 s2 is busy hf h1 h2 (by omega) (fun e=>⟨(hj e).1,by have:=hj e;omega,by have:=hj e;omega⟩) hl hb
 have hIJ:=renI_J (f:=f) (d1:=a) (d2:=b) (i:=x) (j:=y) (s1:=s1) (s2:=s2) (is:=is) (busy:=busy) ⟨by omega,by omega⟩ ⟨by omega,by omega⟩ (fun e=>by have:=hj e;omega)
 have hs:=SmF.of hf
 rw [hIJ.1] at hc
 have hIJ:=hIJ.2
 generalize renI f a s1 b s2 x y is busy=rI at *
 generalize renJ f a s1 b s2 x y is busy=rJ at *
 obtain ⟨g,e⟩:=rJ
 by_cases he:e=0
 ·subst he
  have h3:=hIJ rfl
  rw [h3] at hc
  simp only [if_true] at hc ⊢
  (try simp -implicitDefEqProofs (disch:=first|exact dd|fail)[Tryz.f82]);(repeat'((with_reducible first|(refine Br.out ?_ ?_<;>intro h<;>(try(have h0:=h;simp only[bH]at h)))|refine AC_snd (impl_copyFS _ _ _ f hs) ?_|refine AC_snd (hc) ?_|fail)<;>(try simp -implicitDefEqProofs (disch:=first|exact dd|fail)[Tryz.f82])))
 ·simp only [he,if_false]
  (try simp -implicitDefEqProofs (disch:=first|exact dd|fail)[Tryz.f82,he]);(repeat'((with_reducible first|(refine Br.out ?_ ?_<;>intro h<;>(try(have h0:=h;simp only[bH]at h)))|refine AC_snd (impl_copyFS _ _ _ f hs) ?_|refine AC_snd (hc) ?_|fail)<;>(try simp -implicitDefEqProofs (disch:=first|exact dd|fail)[Tryz.f82,he])))
theorem impl_RenamePath (n1 n2 n3 n4 n5:Option Bool) (f:DFS) (c:DCred) (p q:Str) (busy:List Int) (hs:SmF f) (hc:c.groups.length≤1048576) (hp:p.length≤1048576) (hq:q.length≤1048576) (hb:busy.length≤1048576):Snd Tryz.prog 38 [fFS n1 n2 n3 f,fCred n4 c, .str p, .str q, .frz 1 n5 (busy.map ci)] (.tup [rFS (renameO f c p q busy).1, .int .i64 (renameO f c p q busy).2]) [.unk, .unk, .unk, .unk, .unk]:=Runs.snd (M:=M) (c:=⟨5,[5,6,9,10,11,12,13,14,15,24,36,56],[],[]⟩) tok ks mixed Tryz.func38 (p := []) (by kernel_rfl) (by rfl) (by rfl) <| by
 have c1:=fun a b d e=>impl_endOf a b d e f c p hs hc hp
 have c2:=fun a b d e=>impl_endOf a b d e f c q hs hc hq
 have cp:=fun a b d=>impl_copyFS a b d f hs
 have hok:=resolveQ_ok (f:=f) (c:=c) (p:=p)
 have hok2:=resolveQ_ok (f:=f) (c:=c) (p:=q)
 obtain ⟨A,hA⟩:∃ A,A=renameO f c p q busy:=⟨_,rfl⟩
 rw [←hA]
 unfold renameO at hA
 generalize resolveQ f c p=w at *
 generalize resolveQ f c q=w2 at *
 obtain ⟨d1,s1,e1⟩:=w
 obtain ⟨d2,s2,e2⟩:=w2
 by_cases he1:e1=0
 rotate_left
 ·simp [he1] at hA
  subst hA
  simp only [he1,if_false] at c1
  (try simp -implicitDefEqProofs (disch:=first|exact dd|fail)[Tryz.f38,he1]);(repeat'((with_reducible first|(refine Br.out ?_ ?_<;>intro h<;>(try(have h0:=h;simp only[bH]at h)))|refine AC_snd (c1 _ _ _ _) ?_|refine AC_snd (cp _ _ _) ?_|fail)<;>(try simp -implicitDefEqProofs (disch:=first|exact dd|fail)[Tryz.f38,he1])))
 subst he1
 simp only [if_true,ne_eq,not_true_eq_false,if_false] at hA c1
 by_cases he2:e2=0
 rotate_left
 ·simp [he2] at hA
  subst hA
  simp only [he2,if_false] at c2
  (try simp -implicitDefEqProofs (disch:=first|exact dd|fail)[Tryz.f38,he2]);(repeat'((with_reducible first|(refine Br.out ?_ ?_<;>intro h<;>(try(have h0:=h;simp only[bH]at h)))|refine AC_snd (c1 _ _ _ _) ?_|refine AC_snd (c2 _ _ _ _) ?_|refine AC_snd (cp _ _ _) ?_|fail)<;>(try simp -implicitDefEqProofs (disch:=first|exact dd|fail)[Tryz.f38,he2])))
 subst he2
 simp only [if_true,ne_eq,not_true_eq_false,if_false] at hA c2
 have h1:=hok rfl
 have h2:=hok2 rfl
 simp only at h1 h2
 have hf:=tr_iff.1 h1.1
 have hdl1:=isDirI_lt h1.2.2.1
 have hdl2:=isDirI_lt h2.2.2.1
 have hl2:=nameOK_len h2.2.2.2
 have hr:=renC_ok (f:=f) (c:=c) (d1:=d1) (d2:=d2) (s1:=s1) (s2:=s2)
 have hin1:=findE_in (f:=f) (d:=d1) (s:=s1)
 have hin2:=findE_in (f:=f) (d:=d2) (s:=s2)
 have hno1:=findE_none (s:=s1) (l:=entriesI f d1)
 have hno2:=findE_none (s:=s2) (l:=entriesI f d2)
 generalize findE (entriesI f d1) s1=x1 at *
 generalize findE (entriesI f d2) s2=x2 at *
 obtain ⟨i,b1⟩:=x1
 obtain ⟨j,b2⟩:=x2
 have hi:0≤i∧i < 20:=by
  cases b1 with
  | true=>exact hin1 rfl
  | false=>have:=hno1 rfl;simp only at this;omega
 have hj:0≤j∧j < 20:=by
  cases b2 with
  | true=>exact hin2 rfl
  | false=>have:=hno2 rfl;simp only at this;omega
 have cr:∀ a b e g:Option Bool,Snd Tryz.prog 105 [pFS a b e f,fCred g c, .agg [.int .i64 d1, .str s1, .int .i64 i, .bool b1], .agg [.int .i64 d2, .str s2, .int .i64 j, .bool b2]] (.int .i64 (renC f c d1 (i,b1) d2 (j,b2))) [.unk, .unk, .unk, .unk]:=by
  intro a b e g
  obtain ⟨D1,hD1⟩:=Int.eq_ofNat_of_zero_le hdl1.1
  obtain ⟨D2,hD2⟩:=Int.eq_ofNat_of_zero_le hdl2.1
  obtain ⟨I,hI⟩:=Int.eq_ofNat_of_zero_le hi.1
  obtain ⟨J,hJ⟩:=Int.eq_ofNat_of_zero_le hj.1
  have:=impl_renaming a b e g f c D1 I D2 J s1 s2 b1 b2 hf (by omega) (by omega) (by omega) (by omega) hc
  rw [←hD1,←hD2,←hI,←hJ] at this
  exact this
 have cc:=fun a b e g hh=>impl_changed_rename a b e g f d1 d2 i j s1 s2 b2 busy hf (isDir_use h1.2.2.1) (isDir_use h2.2.2.1) hi hj hh (by omega) hb
 simp only at hA cr hr cc
 generalize renC f c d1 (i,b1) d2 (j,b2)=v at *
 by_cases hv:v=0
 rotate_left
 ·rw [if_pos hv] at hA
  subst hA
  (try simp -implicitDefEqProofs (disch:=first|exact dd|fail)[Tryz.f38,hv]);(repeat'((with_reducible first|(refine Br.out ?_ ?_<;>intro h<;>(try(have h0:=h;simp only[bH]at h)))|refine AC_snd (c1 _ _ _ _) ?_|refine AC_snd (c2 _ _ _ _) ?_|refine AC_snd (cr _ _ _ _) ?_|refine AC_snd (cp _ _ _) ?_|fail)<;>(try simp -implicitDefEqProofs (disch:=first|exact dd|fail)[Tryz.f38,hv])))
 subst hv
 rw [if_neg (by simp)] at hA
 by_cases hsame:b2=true∧j=i
 ·rw [if_pos hsame] at hA
  subst hA
  obtain ⟨rfl,rfl⟩:=hsame
  (try simp -implicitDefEqProofs (disch:=first|exact dd|fail)[Tryz.f38]);(repeat'((with_reducible first|(refine Br.out ?_ ?_<;>intro h<;>(try(have h0:=h;simp only[bH]at h)))|refine AC_snd (c1 _ _ _ _) ?_|refine AC_snd (c2 _ _ _ _) ?_|refine AC_snd (cr _ _ _ _) ?_|refine AC_snd (cp _ _ _) ?_|fail)<;>(try simp -implicitDefEqProofs (disch:=first|exact dd|fail)[Tryz.f38])))
 rw [if_neg hsame] at hA
 have hr:=hr rfl hsame h1.2.2.1 h2.2.2.1
 obtain ⟨rfl,hr2,hr3⟩:=hr
 have cc:=fun a b e g=>cc a b e g hr3
 generalize renJ f d1 s1 d2 s2 i j b2 busy=rJ at *
 obtain ⟨g,e⟩:=rJ
 simp only at hA cc
 generalize (if e=0 then g else f)=g2 at *
 subst hA
 cases b2 with
 | true=>
  have hji:¬ j=i:=fun e=>hsame ⟨rfl,e⟩
  (try simp -implicitDefEqProofs (disch:=first|exact dd|fail)[Tryz.f38,hji]);(repeat'((with_reducible first|(refine Br.out ?_ ?_<;>intro h<;>(try(have h0:=h;simp only[bH]at h)))|refine AC_snd (c1 _ _ _ _) ?_|refine AC_snd (c2 _ _ _ _) ?_|refine AC_snd (cr _ _ _ _) ?_|refine AC_snd (cc _ _ _ _) ?_|refine AC_snd (cp _ _ _) ?_|fail)<;>(try simp -implicitDefEqProofs (disch:=first|exact dd|fail)[Tryz.f38,hji])))
 | false=>
  (try simp -implicitDefEqProofs (disch:=first|exact dd|fail)[Tryz.f38]);(repeat'((with_reducible first|(refine Br.out ?_ ?_<;>intro h<;>(try(have h0:=h;simp only[bH]at h)))|refine AC_snd (c1 _ _ _ _) ?_|refine AC_snd (c2 _ _ _ _) ?_|refine AC_snd (cr _ _ _ _) ?_|refine AC_snd (cc _ _ _ _) ?_|refine AC_snd (cp _ _ _) ?_|fail)<;>(try simp -implicitDefEqProofs (disch:=first|exact dd|fail)[Tryz.f38])))
end Go.Proofs.YtgopfdninbknpaaGreat
