import Derived.Test.YtgopfdninbknpaaGreatP14t
namespace Go.Proofs.YtgopfdninbknpaaGreat
open Go.Fw
set_option linter.unusedVariables false
set_option linter.unusedSimpArgs false
set_option maxHeartbeats 4000000
set_option maxRecDepth 8000
theorem renC_K {f:DFS} {c:DCred} {d1 d2 i j:Int} {b2:Bool} (h1:hasI f i=true) (h2:mayI f c d1 3=true) (h3:mayI f c d2 3=true) (h4:mayRemove c (inodeAt f d1).uid (inodeAt f d1).mode (inodeAt f i).uid=true) (h5:¬ (isDirI f i=true∧withinN (parentI f) i 20 d2=true)) (h6:b2=true) (h7:¬ j=i):renC f c d1 (i,true) d2 (j,b2)=renK f c d2 i j:=by
 unfold renC renK
 rw [if_neg (by simp [h1]),if_neg (by simp [h2,h3]),if_neg (by simp [h4]),if_neg h5,if_neg (by simp [h6,h7])]
theorem spec_RenamePath (n1 n2 n3 n4 n5:Option Bool) (f:DFS) (c:DCred) (p q:Str) (busy:List Int) (hs:SmF f) (hc:c.groups.length≤1048576) (hp:p.length≤1048576) (hq:q.length≤1048576) (hb:busy.length≤1048576):Snd Tryz.prog 37 [fFS n1 n2 n3 f,fCred n4 c, .str p, .str q, .frz 1 n5 (busy.map ci)] (.tup [rFS (renameO f c p q busy).1, .int .i64 (renameO f c p q busy).2]) [.unk, .unk, .unk, .unk, .unk]:=Runs.snd (M:=M) (c:=⟨5,[5,6,10,11,12,13,14,15,16,17,18,19,20,21,22,23,24,25,33,45,58,74,88,103,119,147,151,159,176],[],[]⟩) tok ks mixed Tryz.func37 (p := []) (by kernel_rfl) (by rfl) (by rfl) <| by
 have c1:=fun a b d e=>spec_ResolveParent a b d e f c p hs hc hp
 have c2:=fun a b d e=>spec_ResolveParent a b d e f c q hs hc hq
 have cp:=fun a b d=>spec_l08Copy a b d f hs
 have c0:=fun a b d=>spec_IsFS a b d f hs
 have c00:=fun a=>spec_IsCred a c hc
 have hok:=resolveQ_ok (f:=f) (c:=c) (p:=p)
 have hok2:=resolveQ_ok (f:=f) (c:=c) (p:=q)
 obtain ⟨A,hA⟩:∃ A,A=renameO f c p q busy:=⟨_,rfl⟩
 rw [←hA]
 by_cases h0:(isFS f && isCred c)=true
 rotate_left
 ·have h00:(resolveQ f c p).2.2=1:=by rw [resolveQ,if_pos (by simpa using h0)]
  unfold renameO at hA
  rw [if_pos (by rw [h00];decide),h00] at hA
  subst hA
  (try simp -implicitDefEqProofs (disch:=first|exact dd|fail)[Tryz.f37]);(repeat'((with_reducible first|(refine Br.out ?_ ?_<;>intro h<;>(try(have h0:=h;simp only[bH]at h)))|refine AC_snd (c0 _ _ _) ?_|refine AC_snd (c00 _) ?_|refine AC_snd (cp _ _ _) ?_|fail)<;>(try simp -implicitDefEqProofs (disch:=first|exact dd|fail)[Tryz.f37])))
  all_goals (exfalso;simp_all)
 have h01:=Bool.and_eq_true_iff.1 h0
 unfold renameO at hA
 generalize resolveQ f c p=w at *
 generalize resolveQ f c q=w2 at *
 obtain ⟨d1,s1,e1⟩:=w
 obtain ⟨d2,s2,e2⟩:=w2
 by_cases he1:e1=0
 rotate_left
 ·simp [he1] at hA
  subst hA
  (try simp -implicitDefEqProofs (disch:=first|exact dd|fail)[Tryz.f37,h01.1,h01.2,he1]);(repeat'((with_reducible first|(refine Br.out ?_ ?_<;>intro h<;>(try(have h0:=h;simp only[bH]at h)))|refine AC_snd (c0 _ _ _) ?_|refine AC_snd (c00 _) ?_|refine AC_snd (c1 _ _ _ _) ?_|refine AC_snd (cp _ _ _) ?_|fail)<;>(try simp -implicitDefEqProofs (disch:=first|exact dd|fail)[Tryz.f37,h01.1,h01.2,he1])))
 subst he1
 simp only [ne_eq,not_true_eq_false,if_false] at hA
 by_cases he2:e2=0
 rotate_left
 ·simp [he2] at hA
  subst hA
  (try simp -implicitDefEqProofs (disch:=first|exact dd|fail)[Tryz.f37,h01.1,h01.2,he2]);(repeat'((with_reducible first|(refine Br.out ?_ ?_<;>intro h<;>(try(have h0:=h;simp only[bH]at h)))|refine AC_snd (c0 _ _ _) ?_|refine AC_snd (c00 _) ?_|refine AC_snd (c1 _ _ _ _) ?_|refine AC_snd (c2 _ _ _ _) ?_|refine AC_snd (cp _ _ _) ?_|fail)<;>(try simp -implicitDefEqProofs (disch:=first|exact dd|fail)[Tryz.f37,h01.1,h01.2,he2])))
 subst he2
 simp only [ne_eq,not_true_eq_false,if_false] at hA
 have h1:=hok rfl
 have h2:=hok2 rfl
 simp only at h1 h2
 have hf:=tr_iff.1 h1.1
 have hn:=hf.ni
 have hdl1:=isDirI_lt h1.2.2.1
 have hdl2:=isDirI_lt h2.2.2.1
 have hu1:=isDir_use h1.2.2.1
 have hu2:=isDir_use h2.2.2.1
 have hl2:=nameOK_len h2.2.2.2
 have cf1:=fun a b d=>spec_l10Find a b d f d1 s1 hf hdl1
 have cf2:=fun a b d=>spec_l10Find a b d f d2 s2 hf hdl2
 have m1:=fun a b e g=>spec_l11May a b e g f c d1 3 hn hu1 hs hc
 have m2:=fun a b e g=>spec_l11May a b e g f c d2 3 hn hu2 hs hc
 have hr:=renC_ok (f:=f) (c:=c) (d1:=d1) (d2:=d2) (s1:=s1) (s2:=s2)
 have hin1:=findE_in (f:=f) (d:=d1) (s:=s1)
 have hin2:=findE_in (f:=f) (d:=d2) (s:=s2)
 have hno1:=findE_none (s:=s1) (l:=entriesI f d1)
 have hno2:=findE_none (s:=s2) (l:=entriesI f d2)
 obtain ⟨a1,rfl⟩:=Int.eq_ofNat_of_zero_le hdl1.1
 obtain ⟨a2,rfl⟩:=Int.eq_ofNat_of_zero_le hdl2.1
 have ha1:a1 < f.inodes.length:=by omega
 have ha2:a2 < f.inodes.length:=by omega
 generalize findE (entriesI f a1) s1=x1 at *
 generalize findE (entriesI f a2) s2=x2 at *
 obtain ⟨i,b1⟩:=x1
 obtain ⟨j,b2⟩:=x2
 have hi:0≤i∧i < 20:=by
  cases b1 with
  | true=>exact hin1 rfl
  | false=>have:=hno1 rfl;simp only at this;omega
 have hj:0≤j∧j < 20:=by
  cases b2 with
  | true=>exact hin2 rfl
  | false=>have:=hno2 rfl;simp only at this;omega
 obtain ⟨i,rfl⟩:=Int.eq_ofNat_of_zero_le hi.1
 obtain ⟨j,rfl⟩:=Int.eq_ofNat_of_zero_le hj.1
 have hi20:i < 20:=by omega
 have hj20:j < 20:=by omega
 have hi1:i < f.inodes.length:=by omega
 have hhi:=hasI_kk (f:=f) hi20
 have hdi:=isDirI_kk (f:=f) hi20
 rw [inodeAt_nat hi1] at hhi hdi
 have cw:=fun a b d=>spec_l14Within a b d f i a2 hf
 have cm:=fun a=>spec_MayRemove a c f.inodes[a1].uid f.inodes[a1].mode f.inodes[i].uid hc
 have ck:=fun a b d e=>spec_l14Check a b d e f c a2 i j hf hc (by omega) hi20 hj20
 have cv:=fun a b d e J is hh=>spec_l14Move a b d e f a1 a2 i J s1 s2 is busy hf hu1 hu2 hi20 hh (by omega) hb
 have hMJ:=fun J is=>renM_J (f:=f) (d1:=a1) (d2:=a2) (i:=i) (j:=J) (s1:=s1) (s2:=s2) (is:=is) (busy:=busy)
 have hKK:=@renC_K f c a1 a2 i j b2
 simp only at hA hr
 obtain ⟨v,hv⟩:∃ v,v=renC f c a1 ((i:Int),b1) a2 ((j:Int),b2):=⟨_,rfl⟩
 rw [←hv] at hA hr
 have hv2:=hv
 unfold renC at hv
 simp only at hv
 rw [inodeAt_nat ha1,inodeAt_nat hi1] at hv hKK
 generalize hx3:mayI f c a1 3=x3 at *
 generalize hx4:mayI f c a2 3=x4 at *
 generalize hx5:mayRemove c f.inodes[a1].uid f.inodes[a1].mode f.inodes[i].uid=x5 at *
 generalize hx9:withinN (parentI f) i 20 a2=x9 at *
 cases b1 with
 | false=>
  rw [if_pos (.inl rfl)] at hv
  subst hv
  simp at hA
  subst hA
  (try simp -implicitDefEqProofs (disch:=first|exact dd|fail)[Tryz.f37,h01.1,h01.2,ha1,hi1,cInode]);(repeat'((with_reducible first|(refine Br.out ?_ ?_<;>intro h<;>(try(have h0:=h;simp only[bH]at h)))|refine AC_snd (c0 _ _ _) ?_|refine AC_snd (c00 _) ?_|refine AC_snd (c1 _ _ _ _) ?_|refine AC_snd (c2 _ _ _ _) ?_|refine AC_snd (cf1 _ _ _) ?_|refine AC_snd (cp _ _ _) ?_|fail)<;>(try simp -implicitDefEqProofs (disch:=first|exact dd|fail)[Tryz.f37,h01.1,h01.2,ha1,hi1,cInode])))
 | true=>
 by_cases hk0:f.inodes[i].kind=0
 ·have hh:hasI f i=false:=by rw [hhi];simp [hk0]
  rw [if_pos (.inr hh)] at hv
  subst hv
  simp at hA
  subst hA
  (try simp -implicitDefEqProofs (disch:=first|exact dd|fail)[Tryz.f37,h01.1,h01.2,hi1,ha1,hk0,cInode]);(repeat'((with_reducible first|(refine Br.out ?_ ?_<;>intro h<;>(try(have h0:=h;simp only[bH]at h)))|refine AC_snd (c0 _ _ _) ?_|refine AC_snd (c00 _) ?_|refine AC_snd (c1 _ _ _ _) ?_|refine AC_snd (c2 _ _ _ _) ?_|refine AC_snd (cf1 _ _ _) ?_|refine AC_snd (cp _ _ _) ?_|fail)<;>(try simp -implicitDefEqProofs (disch:=first|exact dd|fail)[Tryz.f37,h01.1,h01.2,hi1,ha1,hk0,cInode])))
 have hh:hasI f i=true:=by rw [hhi];simp [hk0]
 rw [if_neg (by simp [hh])] at hv
 cases x3 with
 | false=>
  rw [if_pos (.inl rfl)] at hv
  subst hv
  simp at hA
  subst hA
  (try simp -implicitDefEqProofs (disch:=first|exact dd|fail)[Tryz.f37,h01.1,h01.2,hi1,ha1,hk0,cInode]);(repeat'((with_reducible first|(refine Br.out ?_ ?_<;>intro h<;>(try(have h0:=h;simp only[bH]at h)))|refine AC_snd (c0 _ _ _) ?_|refine AC_snd (c00 _) ?_|refine AC_snd (c1 _ _ _ _) ?_|refine AC_snd (c2 _ _ _ _) ?_|refine AC_snd (cf1 _ _ _) ?_|refine AC_snd (m1 _ _ _ _) ?_|refine AC_snd (cp _ _ _) ?_|fail)<;>(try simp -implicitDefEqProofs (disch:=first|exact dd|fail)[Tryz.f37,h01.1,h01.2,hi1,ha1,hk0,cInode])))
 | true=>
 cases x4 with
 | false=>
  rw [if_pos (.inr rfl)] at hv
  subst hv
  simp at hA
  subst hA
  (try simp -implicitDefEqProofs (disch:=first|exact dd|fail)[Tryz.f37,h01.1,h01.2,hi1,ha1,hk0,cInode]);(repeat'((with_reducible first|(refine Br.out ?_ ?_<;>intro h<;>(try(have h0:=h;simp only[bH]at h)))|refine AC_snd (c0 _ _ _) ?_|refine AC_snd (c00 _) ?_|refine AC_snd (c1 _ _ _ _) ?_|refine AC_snd (c2 _ _ _ _) ?_|refine AC_snd (cf1 _ _ _) ?_|refine AC_snd (m1 _ _ _ _) ?_|refine AC_snd (m2 _ _ _ _) ?_|refine AC_snd (cp _ _ _) ?_|fail)<;>(try simp -implicitDefEqProofs (disch:=first|exact dd|fail)[Tryz.f37,h01.1,h01.2,hi1,ha1,hk0,cInode])))
 | true=>
 rw [if_neg (by simp)] at hv
 cases x5 with
 | false=>
  rw [if_pos rfl] at hv
  subst hv
  simp at hA
  subst hA
  (try simp -implicitDefEqProofs (disch:=first|exact dd|fail)[Tryz.f37,h01.1,h01.2,hi1,ha1,hk0,cInode]);(repeat'((with_reducible first|(refine Br.out ?_ ?_<;>intro h<;>(try(have h0:=h;simp only[bH]at h)))|refine AC_snd (c0 _ _ _) ?_|refine AC_snd (c00 _) ?_|refine AC_snd (c1 _ _ _ _) ?_|refine AC_snd (c2 _ _ _ _) ?_|refine AC_snd (cf1 _ _ _) ?_|refine AC_snd (m1 _ _ _ _) ?_|refine AC_snd (m2 _ _ _ _) ?_|refine AC_snd (cm _) ?_|refine AC_snd (cp _ _ _) ?_|fail)<;>(try simp -implicitDefEqProofs (disch:=first|exact dd|fail)[Tryz.f37,h01.1,h01.2,hi1,ha1,hk0,cInode])))
 | true=>
 rw [if_neg (by simp)] at hv
 by_cases h5:isDirI f i=true∧x9=true
 ·rw [if_pos h5] at hv
  subst hv
  simp at hA
  subst hA
  obtain ⟨g1,rfl⟩:=h5
  rw [hdi] at g1
  have g1:f.inodes[i].kind=2:=by simpa using g1
  (try simp -implicitDefEqProofs (disch:=first|exact dd|fail)[Tryz.f37,h01.1,h01.2,hi1,ha1,g1,cInode]);(repeat'((with_reducible first|(refine Br.out ?_ ?_<;>intro h<;>(try(have h0:=h;simp only[bH]at h)))|refine AC_snd (c0 _ _ _) ?_|refine AC_snd (c00 _) ?_|refine AC_snd (c1 _ _ _ _) ?_|refine AC_snd (c2 _ _ _ _) ?_|refine AC_snd (cf1 _ _ _) ?_|refine AC_snd (m1 _ _ _ _) ?_|refine AC_snd (m2 _ _ _ _) ?_|refine AC_snd (cm _) ?_|refine AC_snd (cw _ _ _) ?_|refine AC_snd (cp _ _ _) ?_|fail)<;>(try simp -implicitDefEqProofs (disch:=first|exact dd|fail)[Tryz.f37,h01.1,h01.2,hi1,ha1,g1,cInode])))
 rw [if_neg h5] at hv
 have hw:¬ f.inodes[i].kind=2∨x9=false:=by
  rw [hdi] at h5
  by_cases e:f.inodes[i].kind=2
  ·right
   simpa [e] using h5
  ·exact .inl e
 have hKK:=hKK hh rfl rfl rfl h5
 rw [←hv2] at hKK
 cases b2 with
 | false=>
  rw [if_pos (.inl rfl)] at hv
  subst hv
  have cv:=fun a b d e=>cv a b d e (-1) false (by simp)
  have hjj:renJ f a1 s1 a2 s2 i j false busy=renJ f a1 s1 a2 s2 i (-1) false busy:=by unfold renJ;rfl
  have hMJ:=hMJ (-1) false
  rw [hjj] at hA
  simp only [not_true_eq_false,if_false,Bool.false_eq_true,false_and] at hA
  generalize renJ f a1 s1 a2 s2 i (-1) false busy=rJ at *
  generalize renM f a1 s1 a2 s2 i (-1) false busy=rM at *
  obtain ⟨g,e⟩:=rJ
  obtain ⟨gm,em⟩:=rM
  obtain ⟨q1,q2⟩:=hMJ
  simp only at q1 q2 hA
  subst q1
  by_cases he:em=0
  ·have q3:=q2 he
   subst he
   subst q3
   simp only [if_true] at hA
   subst hA
   rcases hw with hw | rfl
   ·(try simp -implicitDefEqProofs (disch:=first|exact dd|fail)[Tryz.f37,h01.1,h01.2,hi1,ha1,hk0,hw,cInode]);(repeat'((with_reducible first|(refine Br.out ?_ ?_<;>intro h<;>(try(have h0:=h;simp only[bH]at h)))|refine AC_snd (c0 _ _ _) ?_|refine AC_snd (c00 _) ?_|refine AC_snd (c1 _ _ _ _) ?_|refine AC_snd (c2 _ _ _ _) ?_|refine AC_snd (cf1 _ _ _) ?_|refine AC_snd (cf2 _ _ _) ?_|refine AC_snd (m1 _ _ _ _) ?_|refine AC_snd (m2 _ _ _ _) ?_|refine AC_snd (cm _) ?_|refine AC_snd (cv _ _ _ _) ?_|refine AC_snd (cp _ _ _) ?_|fail)<;>(try simp -implicitDefEqProofs (disch:=first|exact dd|fail)[Tryz.f37,h01.1,h01.2,hi1,ha1,hk0,hw,cInode])))
   ·(try simp -implicitDefEqProofs (disch:=first|exact dd|fail)[Tryz.f37,h01.1,h01.2,hi1,ha1,hk0,cInode]);(repeat'((with_reducible first|(refine Br.out ?_ ?_<;>intro h<;>(try(have h0:=h;simp only[bH]at h)))|refine AC_snd (c0 _ _ _) ?_|refine AC_snd (c00 _) ?_|refine AC_snd (c1 _ _ _ _) ?_|refine AC_snd (c2 _ _ _ _) ?_|refine AC_snd (cf1 _ _ _) ?_|refine AC_snd (cf2 _ _ _) ?_|refine AC_snd (m1 _ _ _ _) ?_|refine AC_snd (m2 _ _ _ _) ?_|refine AC_snd (cm _) ?_|refine AC_snd (cw _ _ _) ?_|refine AC_snd (cv _ _ _ _) ?_|refine AC_snd (cp _ _ _) ?_|fail)<;>(try simp -implicitDefEqProofs (disch:=first|exact dd|fail)[Tryz.f37,h01.1,h01.2,hi1,ha1,hk0,cInode])))
  ·simp only [he,if_false] at hA
   subst hA
   rcases hw with hw | rfl
   ·(try simp -implicitDefEqProofs (disch:=first|exact dd|fail)[Tryz.f37,h01.1,h01.2,hi1,ha1,hk0,hw,he,cInode]);(repeat'((with_reducible first|(refine Br.out ?_ ?_<;>intro h<;>(try(have h0:=h;simp only[bH]at h)))|refine AC_snd (c0 _ _ _) ?_|refine AC_snd (c00 _) ?_|refine AC_snd (c1 _ _ _ _) ?_|refine AC_snd (c2 _ _ _ _) ?_|refine AC_snd (cf1 _ _ _) ?_|refine AC_snd (cf2 _ _ _) ?_|refine AC_snd (m1 _ _ _ _) ?_|refine AC_snd (m2 _ _ _ _) ?_|refine AC_snd (cm _) ?_|refine AC_snd (cv _ _ _ _) ?_|refine AC_snd (cp _ _ _) ?_|fail)<;>(try simp -implicitDefEqProofs (disch:=first|exact dd|fail)[Tryz.f37,h01.1,h01.2,hi1,ha1,hk0,hw,he,cInode])))
   ·(try simp -implicitDefEqProofs (disch:=first|exact dd|fail)[Tryz.f37,h01.1,h01.2,hi1,ha1,hk0,he,cInode]);(repeat'((with_reducible first|(refine Br.out ?_ ?_<;>intro h<;>(try(have h0:=h;simp only[bH]at h)))|refine AC_snd (c0 _ _ _) ?_|refine AC_snd (c00 _) ?_|refine AC_snd (c1 _ _ _ _) ?_|refine AC_snd (c2 _ _ _ _) ?_|refine AC_snd (cf1 _ _ _) ?_|refine AC_snd (cf2 _ _ _) ?_|refine AC_snd (m1 _ _ _ _) ?_|refine AC_snd (m2 _ _ _ _) ?_|refine AC_snd (cm _) ?_|refine AC_snd (cw _ _ _) ?_|refine AC_snd (cv _ _ _ _) ?_|refine AC_snd (cp _ _ _) ?_|fail)<;>(try simp -implicitDefEqProofs (disch:=first|exact dd|fail)[Tryz.f37,h01.1,h01.2,hi1,ha1,hk0,he,cInode])))
 | true=>
 by_cases hji:(j:Int)=i
 ·rw [if_pos (.inr hji)] at hv
  subst hv
  obtain rfl:j=i:=by omega
  simp at hA
  subst hA
  rcases hw with hw | rfl
  ·(try simp -implicitDefEqProofs (disch:=first|exact dd|fail)[Tryz.f37,h01.1,h01.2,hi1,ha1,hk0,hw,cInode]);(repeat'((with_reducible first|(refine Br.out ?_ ?_<;>intro h<;>(try(have h0:=h;simp only[bH]at h)))|refine AC_snd (c0 _ _ _) ?_|refine AC_snd (c00 _) ?_|refine AC_snd (c1 _ _ _ _) ?_|refine AC_snd (c2 _ _ _ _) ?_|refine AC_snd (cf1 _ _ _) ?_|refine AC_snd (cf2 _ _ _) ?_|refine AC_snd (m1 _ _ _ _) ?_|refine AC_snd (m2 _ _ _ _) ?_|refine AC_snd (cm _) ?_|refine AC_snd (cp _ _ _) ?_|fail)<;>(try simp -implicitDefEqProofs (disch:=first|exact dd|fail)[Tryz.f37,h01.1,h01.2,hi1,ha1,hk0,hw,cInode])))
  ·(try simp -implicitDefEqProofs (disch:=first|exact dd|fail)[Tryz.f37,h01.1,h01.2,hi1,ha1,hk0,cInode]);(repeat'((with_reducible first|(refine Br.out ?_ ?_<;>intro h<;>(try(have h0:=h;simp only[bH]at h)))|refine AC_snd (c0 _ _ _) ?_|refine AC_snd (c00 _) ?_|refine AC_snd (c1 _ _ _ _) ?_|refine AC_snd (c2 _ _ _ _) ?_|refine AC_snd (cf1 _ _ _) ?_|refine AC_snd (cf2 _ _ _) ?_|refine AC_snd (m1 _ _ _ _) ?_|refine AC_snd (m2 _ _ _ _) ?_|refine AC_snd (cm _) ?_|refine AC_snd (cw _ _ _) ?_|refine AC_snd (cp _ _ _) ?_|fail)<;>(try simp -implicitDefEqProofs (disch:=first|exact dd|fail)[Tryz.f37,h01.1,h01.2,hi1,ha1,hk0,cInode])))
 have hvK:=hKK rfl hji
 clear hv hKK
 have hnj:¬ j=i:=by omega
 by_cases hv0:v=0
 rotate_left
 ·simp [hv0] at hA
  subst hA
  rw [←hvK] at ck
  rcases hw with hw | rfl
  ·(try simp -implicitDefEqProofs (disch:=first|exact dd|fail)[Tryz.f37,h01.1,h01.2,hi1,ha1,hk0,hw,hji,hnj,hv0,cInode]);(repeat'((with_reducible first|(refine Br.out ?_ ?_<;>intro h<;>(try(have h0:=h;simp only[bH]at h)))|refine AC_snd (c0 _ _ _) ?_|refine AC_snd (c00 _) ?_|refine AC_snd (c1 _ _ _ _) ?_|refine AC_snd (c2 _ _ _ _) ?_|refine AC_snd (cf1 _ _ _) ?_|refine AC_snd (cf2 _ _ _) ?_|refine AC_snd (m1 _ _ _ _) ?_|refine AC_snd (m2 _ _ _ _) ?_|refine AC_snd (cm _) ?_|refine AC_snd (ck _ _ _ _) ?_|refine AC_snd (cp _ _ _) ?_|fail)<;>(try simp -implicitDefEqProofs (disch:=first|exact dd|fail)[Tryz.f37,h01.1,h01.2,hi1,ha1,hk0,hw,hji,hnj,hv0,cInode])))
  ·(try simp -implicitDefEqProofs (disch:=first|exact dd|fail)[Tryz.f37,h01.1,h01.2,hi1,ha1,hk0,hji,hnj,hv0,cInode]);(repeat'((with_reducible first|(refine Br.out ?_ ?_<;>intro h<;>(try(have h0:=h;simp only[bH]at h)))|refine AC_snd (c0 _ _ _) ?_|refine AC_snd (c00 _) ?_|refine AC_snd (c1 _ _ _ _) ?_|refine AC_snd (c2 _ _ _ _) ?_|refine AC_snd (cf1 _ _ _) ?_|refine AC_snd (cf2 _ _ _) ?_|refine AC_snd (m1 _ _ _ _) ?_|refine AC_snd (m2 _ _ _ _) ?_|refine AC_snd (cm _) ?_|refine AC_snd (cw _ _ _) ?_|refine AC_snd (ck _ _ _ _) ?_|refine AC_snd (cp _ _ _) ?_|fail)<;>(try simp -implicitDefEqProofs (disch:=first|exact dd|fail)[Tryz.f37,h01.1,h01.2,hi1,ha1,hk0,hji,hnj,hv0,cInode])))
 subst hv0
 rw [←hvK] at ck
 have hr:=hr rfl (fun H=>hji H.2) h1.2.2.1 h2.2.2.1
 have hr3:=hr.2.2 rfl
 have cv:=fun a b d e=>cv a b d e j true (by simpa using hr3)
 have hMJ:=hMJ j true
 have hsm:¬ (true=true∧(j:Int)=i):=fun H=>hji H.2
 rw [if_neg (by simp),if_neg hsm] at hA
 generalize renJ f a1 s1 a2 s2 i j true busy=rJ at *
 generalize renM f a1 s1 a2 s2 i j true busy=rM at *
 obtain ⟨g,e⟩:=rJ
 obtain ⟨gm,em⟩:=rM
 obtain ⟨q1,q2⟩:=hMJ
 simp only at q1 q2 hA
 subst q1
 by_cases he:em=0
 ·have q3:=q2 he
  subst he
  subst q3
  simp only [if_true] at hA
  subst hA
  rcases hw with hw | rfl
  ·(try simp -implicitDefEqProofs (disch:=first|exact dd|fail)[Tryz.f37,h01.1,h01.2,hi1,ha1,hk0,hw,hji,hnj,cInode]);(repeat'((with_reducible first|(refine Br.out ?_ ?_<;>intro h<;>(try(have h0:=h;simp only[bH]at h)))|refine AC_snd (c0 _ _ _) ?_|refine AC_snd (c00 _) ?_|refine AC_snd (c1 _ _ _ _) ?_|refine AC_snd (c2 _ _ _ _) ?_|refine AC_snd (cf1 _ _ _) ?_|refine AC_snd (cf2 _ _ _) ?_|refine AC_snd (m1 _ _ _ _) ?_|refine AC_snd (m2 _ _ _ _) ?_|refine AC_snd (cm _) ?_|refine AC_snd (ck _ _ _ _) ?_|refine AC_snd (cv _ _ _ _) ?_|refine AC_snd (cp _ _ _) ?_|fail)<;>(try simp -implicitDefEqProofs (disch:=first|exact dd|fail)[Tryz.f37,h01.1,h01.2,hi1,ha1,hk0,hw,hji,hnj,cInode])))
  ·(try simp -implicitDefEqProofs (disch:=first|exact dd|fail)[Tryz.f37,h01.1,h01.2,hi1,ha1,hk0,hji,hnj,cInode]);(repeat'((with_reducible first|(refine Br.out ?_ ?_<;>intro h<;>(try(have h0:=h;simp only[bH]at h)))|refine AC_snd (c0 _ _ _) ?_|refine AC_snd (c00 _) ?_|refine AC_snd (c1 _ _ _ _) ?_|refine AC_snd (c2 _ _ _ _) ?_|refine AC_snd (cf1 _ _ _) ?_|refine AC_snd (cf2 _ _ _) ?_|refine AC_snd (m1 _ _ _ _) ?_|refine AC_snd (m2 _ _ _ _) ?_|refine AC_snd (cm _) ?_|refine AC_snd (cw _ _ _) ?_|refine AC_snd (ck _ _ _ _) ?_|refine AC_snd (cv _ _ _ _) ?_|refine AC_snd (cp _ _ _) ?_|fail)<;>(try simp -implicitDefEqProofs (disch:=first|exact dd|fail)[Tryz.f37,h01.1,h01.2,hi1,ha1,hk0,hji,hnj,cInode])))
 ·simp only [he,if_false] at hA
  subst hA
  rcases hw with hw | rfl
  ·(try simp -implicitDefEqProofs (disch:=first|exact dd|fail)[Tryz.f37,h01.1,h01.2,hi1,ha1,hk0,hw,hji,hnj,he,cInode]);(repeat'((with_reducible first|(refine Br.out ?_ ?_<;>intro h<;>(try(have h0:=h;simp only[bH]at h)))|refine AC_snd (c0 _ _ _) ?_|refine AC_snd (c00 _) ?_|refine AC_snd (c1 _ _ _ _) ?_|refine AC_snd (c2 _ _ _ _) ?_|refine AC_snd (cf1 _ _ _) ?_|refine AC_snd (cf2 _ _ _) ?_|refine AC_snd (m1 _ _ _ _) ?_|refine AC_snd (m2 _ _ _ _) ?_|refine AC_snd (cm _) ?_|refine AC_snd (ck _ _ _ _) ?_|refine AC_snd (cv _ _ _ _) ?_|refine AC_snd (cp _ _ _) ?_|fail)<;>(try simp -implicitDefEqProofs (disch:=first|exact dd|fail)[Tryz.f37,h01.1,h01.2,hi1,ha1,hk0,hw,hji,hnj,he,cInode])))
  ·(try simp -implicitDefEqProofs (disch:=first|exact dd|fail)[Tryz.f37,h01.1,h01.2,hi1,ha1,hk0,hji,hnj,he,cInode]);(repeat'((with_reducible first|(refine Br.out ?_ ?_<;>intro h<;>(try(have h0:=h;simp only[bH]at h)))|refine AC_snd (c0 _ _ _) ?_|refine AC_snd (c00 _) ?_|refine AC_snd (c1 _ _ _ _) ?_|refine AC_snd (c2 _ _ _ _) ?_|refine AC_snd (cf1 _ _ _) ?_|refine AC_snd (cf2 _ _ _) ?_|refine AC_snd (m1 _ _ _ _) ?_|refine AC_snd (m2 _ _ _ _) ?_|refine AC_snd (cm _) ?_|refine AC_snd (cw _ _ _) ?_|refine AC_snd (ck _ _ _ _) ?_|refine AC_snd (cv _ _ _ _) ?_|refine AC_snd (cp _ _ _) ?_|fail)<;>(try simp -implicitDefEqProofs (disch:=first|exact dd|fail)[Tryz.f37,h01.1,h01.2,hi1,ha1,hk0,hji,hnj,he,cInode])))
end Go.Proofs.YtgopfdninbknpaaGreat
