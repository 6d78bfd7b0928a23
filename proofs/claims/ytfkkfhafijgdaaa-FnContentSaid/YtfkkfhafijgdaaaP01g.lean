import Derived.Test.YtfkkfhafijgdaaaP01c
import Derived.Test.YtfkkfhafijgdaaaP01d
import Derived.Test.YtfkkfhafijgdaaaP01f
namespace Go.Proofs.Ytfkkfhafijgdaaa
open Go.Fw
set_option linter.unusedVariables false
set_option linter.unusedSimpArgs false
set_option maxHeartbeats 4000000
set_option maxRecDepth 8000
theorem fresh_nBZ (kind mode uid gid:Int) (acl dflt:List DAcl):nBZ (freshN kind mode uid gid acl dflt) [] 0=freshN kind mode uid gid acl dflt:=rfl
theorem spec_l08Draw (nl:Option Bool) (c:DCur) (hc:CurOK c) (hl:c.code.length≤1048576):Snd Try.prog 46 [wCur nl c] (rFS (drawFS c).1) [wCur nl (drawFS c).2]:=Runs.snd (M:=M) (c:=⟨1,[2,3,4,5,6,14,42,73,94],[],[]⟩) tok ks mixed Try.func46 (p := [0]) (by kernel_rfl) (by rfl) (by rfl) <| by
 obtain ⟨R,hR⟩:∃ R,R=drawFS c:=⟨_,rfl⟩
 rw [←hR]
 unfold drawFS at hR
 -- quotas
 have cQ:=spec_l08Quotas nl c hc hl
 have oQ:=drawQ_cur hc
 have hq:=drawQ_ok c
 generalize drawQ c=q at *
 have lQ:q.2.code.length≤1048576:=by rw [oQ.2];exact hl
 have cNew:=fun a=>spec_NewFS a q.1 hq.1 hq.2
 -- tick
 have cT:=spec_l01Below nl q.2 9 oQ.1 lQ
 have oT:=belowC_ok 9 oQ.1
 have hT:=belowC_val q.2 (n:=9) (by decide)
 have lT:(belowC q.2 9).2.code.length≤1048576:=by rw [belowC_code];exact lQ
 simp only at hR
 generalize belowC q.2 9=t at *
 -- alone
 have cO:=spec_l01Once nl t.2 8 oT lT
 have oO:=onceC_ok 8 oT
 have lO:(onceC t.2 8).2.code.length≤1048576:=by rw [onceC_code];exact lT
 generalize onceC t.2 8=o at *
 obtain ⟨D0,hD0⟩:∃ D0,D0=(rootF 0 q.1 493).data.map cs:=⟨_,rfl⟩
 obtain ⟨Z,hZ⟩:∃ Z,Z=(List.replicate 19 zeroInode).map cInode:=⟨_,rfl⟩
 have hIm:∀ t m,(rootF t q.1 m).inodes.map cInode = [.int .i64 2, .int .i64 m, .int .i64 0, .int .i64 0, .int .i64 1, .int .i64 0, .int .i64 0, .row 1 [], .row 3 [], .row 3 []] :: Z:=fun t m=>by rw [hZ];rfl
 have hDm:∀ t m,(rootF t q.1 m).data.map cs=D0:=fun t m=>by rw [hD0];rfl
 have hDl:D0.length=56:=by rw [hD0];simp [rootF]
 have hZl:Z.length=19:=by rw [hZ];simp
 have hql:q.1.length=4:=hq.1
 have cNew2:∀ a,Snd Try.prog 106 [.frz 2 a (q.1.map cQuota)] (.agg [.int .i64 0, .row 2 (q.1.map cQuota), .row 10 ([.int .i64 2, .int .i64 493, .int .i64 0, .int .i64 0, .int .i64 1, .int .i64 0, .int .i64 0, .row 1 [], .row 3 [], .row 3 []] :: Z), .row 1 D0]) [.unk]:=by
  intro a
  rw [←hDm 0 493,←hIm 0 493]
  exact cNew a
 have htq:=takeM (f:=cQuota) hql
 have htI:List.take 19 Z=Z:=List.take_of_length_le (by omega)
 have hr0:=fun m hm=>rootF_ok (t:=t.1) (q:=q.1) (mode:=m) (by omega) hq.1 hq.2 hm
 have htD:List.take 56 D0=D0:=List.take_of_length_le (by omega)
 by_cases ho:o.1=true
 ·rw [if_pos ho] at hR
  have r1:R.1.tick=t.1:=by rw [hR];rfl
  have r2:R.1.quotas=q.1:=by rw [hR];rfl
  have r3:=hIm t.1 493
  have r4:=hDm t.1 493
  rw [←show R.1=rootF t.1 q.1 493 by rw [hR]] at r3 r4
  have r5:R.2=o.2:=by rw [hR]
  (try simp -implicitDefEqProofs (maxSteps:=2000000) (disch:=first|exact dd|fail)[Try.f46,ho,hql,hDl,hZl,htq,htI,htD,r1,r2,r3,r4,r5]);(repeat'((with_reducible first|(refine Br.out ?_ ?_<;>intro h<;>(try(have h0:=h;simp only[bH]at h)))|refine AC_snd (cQ) ?_|refine AC_snd (cNew2 _) ?_|refine AC_snd (cT) ?_|refine AC_snd (cO) ?_|fail)<;>(try simp -implicitDefEqProofs (maxSteps:=2000000) (disch:=first|exact dd|fail)[Try.f46,ho,hql,hDl,hZl,htq,htI,htD,r1,r2,r3,r4,r5])))
 ·have ho2:o.1=false:=by simpa using ho
  rw [if_neg ho] at hR
  unfold drawA at hR
  have cM:=spec_l01Pick nl o.2 [493,511,511,1023] (by decide) (by decide) oO lO
  have oM:=pickC_ok [493,511,511,1023] oO
  have lM:(pickC (0:Int) o.2 [493,511,511,1023]).2.code.length≤1048576:=by rw [pickC_code];exact lO
  have hMm:(pickC (0:Int) o.2 [493,511,511,1023]).1 ∈ ([493,511,511,1023]:List Int):=pickC_mem (by decide)
  simp only [List.map_cons,List.map_nil,ci] at cM
  generalize pickC (0:Int) o.2 [493,511,511,1023]=m at *
  have cU:=spec_l01Below nl m.2 3 oM lM
  have oU:=belowC_ok 3 oM
  have hU:=belowC_val m.2 (n:=3) (by decide)
  have lU:(belowC m.2 3).2.code.length≤1048576:=by rw [belowC_code];exact lM
  simp only at hR
  generalize belowC m.2 3=u at *
  have cM2:=spec_l01Pick nl u.2 [493,511,448,504,1535] (by decide) (by decide) oU lU
  have oM2:=pickC_ok [493,511,448,504,1535] oU
  have lM2:(pickC (0:Int) u.2 [493,511,448,504,1535]).2.code.length≤1048576:=by rw [pickC_code];exact lU
  have hM2:(pickC (0:Int) u.2 [493,511,448,504,1535]).1 ∈ ([493,511,448,504,1535]:List Int):=pickC_mem (by decide)
  simp only [List.map_cons,List.map_nil,ci] at cM2
  generalize pickC (0:Int) u.2 [493,511,448,504,1535]=m2 at *
  have cG:=spec_l01Below nl m2.2 4 oM2 lM2
  have oG:=belowC_ok 4 oM2
  have hG:=user4 (c:=m2.2)
  have lG:(belowC m2.2 4).2.code.length≤1048576:=by rw [belowC_code];exact lM2
  generalize belowC m2.2 4=g at *
  have cA:=spec_l05Draw nl g.2 oG lG
  have oA:=drawAcl_cur oG
  have hA:=drawAcl_ok g.2
  have lA:(drawAcl g.2).2.code.length≤1048576:=by rw [oA.2];exact lG
  generalize drawAcl g.2=a at *
  have cB:=spec_l05Draw nl a.2 oA.1 lA
  have oB:=drawAcl_cur oA.1
  have hB:=drawAcl_ok a.2
  have lB:(drawAcl a.2).2.code.length≤1048576:=by rw [oB.2];exact lA
  generalize drawAcl a.2=b at *
  obtain ⟨U,hUU⟩:∃ U:Nat,U=1 + u.1.toNat:=⟨_,rfl⟩
  have hU1:1 + u.1=(U:Int):=by omega
  have hU4:1≤U∧U < 4:=by omega
  rw [←hUU] at hR
  rw [hU1] at hR
  have w1:IntKind.i64.wrap (1 + u.1)=U:=by rw [hU1,wrap64_in (by omega) (by omega)]
  have w2:IntKind.i64.wrap ((U:Int) * 5)=(U:Int) * 5:=wrap64_in (by omega) (by omega)
  have hmm:IsMode m.1:=by
   simp only [List.mem_cons,List.mem_nil_iff,or_false] at hMm
   exact ⟨by omega,by omega⟩
  have hmm2:IsMode m2.1:=by
   simp only [List.mem_cons,List.mem_nil_iff,or_false] at hM2
   exact ⟨by omega,by omega⟩
  have hd1:=hr0 m.1 hmm
  have e0:inodeAt (rootF t.1 q.1 m.1) ((0:Nat):Int)=rootN m.1:=by rw [rootF_at,if_pos rfl]
  have hk1:DirK (rootF t.1 q.1 m.1) 0 0:=⟨by rw [e0];rfl,fun _=>by rw [e0];exact ⟨rfl,rfl⟩,fun h=>by omega⟩
  have hz1:∀ j:Nat,j≠0→(inodeAt (rootF t.1 q.1 m.1) (j:Int)).kind=0:=fun j hj=>by rw [rootF_at,if_neg hj];rfl
  have i1:=hIm t.1 m.1
  have i2:=hDm t.1 m.1
  have i3:(rootF t.1 q.1 m.1).tick=t.1:=rfl
  have i4:(rootF t.1 q.1 m.1).quotas=q.1:=rfl
  generalize rootF t.1 q.1 m.1=f1 at *
  have hn2:InodeOK (freshN 2 m2.1 U g.1 a.1 b.1):=freshN_ok (.inr rfl) hmm2 (show IsUser (U:Int) from ⟨by omega,by omega⟩) hG hA.1 hB.1 (.inl rfl)
  have hcut0:cut32 [] = []:=rfl
  have c8:=fun x y=>spec_l08Add x y f1 0 (U * 5) 0 97 (freshN 2 m2.1 U g.1 a.1 b.1) [] hd1.fs (by omega) (by omega) (by omega) (by omega) hk1 (by omega) (hz1 _ (by omega)) hn2 (by decide)
  have h:=addL_ok (i:=U * 5) (r:=recD (U * 5) [97]) (l := []) hd1.fs (show 0 < 20 by omega) (by omega) (by omega) (by omega) hk1 (by omega) recD_len (hz1 _ (by omega)) hn2 rfl rfl (by simp) (by simp) (by simp)
  rw [hcut0] at c8
  simp only [fresh_nBZ] at c8
  simp only [rFS,fInode,i1,i2,i3,i4,freshN,List.map_nil,Int.natCast_mul,Int.natCast_zero,show ((5:Nat):Int)=5 from rfl,show ((0:Nat):Int)=0 from rfl] at c8
  simp only [freshN] at hR h
  generalize addL f1 0 (U * 5) ⟨2,m2.1,U,g.1,0,0,0,[],a.1,b.1⟩ [] (recD (U * 5) [97])=f2 at *
  (try simp -implicitDefEqProofs (maxSteps:=2000000) (disch:=first|exact dd|fail)[Try.f46,ho2,hql,hDl,hZl,htq,htI,htD,w1,w2]);(repeat'((with_reducible first|(refine Br.out ?_ ?_<;>intro h<;>(try(have h0:=h;simp only[bH]at h)))|refine AC_snd (cQ) ?_|refine AC_snd (cNew2 _) ?_|refine AC_snd (cT) ?_|refine AC_snd (cO) ?_|refine AC_snd (cM) ?_|refine AC_snd (cU) ?_|refine AC_snd (cM2) ?_|refine AC_snd (cG) ?_|refine AC_snd (cA) ?_|refine AC_snd (cB) ?_|refine AC_snd (c8 _ _) ?_|fail)<;>(try simp -implicitDefEqProofs (maxSteps:=2000000) (disch:=first|exact dd|fail)[Try.f46,ho2,hql,hDl,hZl,htq,htI,htD,w1,w2])))
  have hd2:Drawn f2:=Drawn.put h (by omega) hd1
  obtain ⟨k2,hk2l,hk2⟩:=h.dir hk1 rfl
  have hnew:(inodeAt f2 ((U * 5:Nat):Int)).kind=2→DirK f2 (U * 5) 0:=fun h2=>h.new rfl rfl h2
  have hz2:∀ j:Nat,j≠0→j≠U * 5→(inodeAt f2 (j:Int)).kind=0:=fun j h1 h2=>by
   rw [h.other _ (by simpa using h2) (by simpa using h1)]
   exact hz1 j h1
  have j1:=hd2.fs.nq
  have j2:=hd2.fs.ni
  have j3:=hd2.fs.nd
  have t1:=takeM (f:=cQuota) j1
  have t2:=takeM (f:=cInode) j2
  have t3:=takeM (f:=cs) j3
  have cO2:=spec_l01Once nl b.2 3 oB.1 lB
  have oO2:=onceC_ok 3 oB.1
  have lO2:(onceC b.2 3).2.code.length≤1048576:=by rw [onceC_code];exact lB
  generalize onceC b.2 3=o2 at *
  by_cases ho3:o2.1=true
  ·rw [if_pos ho3] at hR
   (try simp -implicitDefEqProofs (maxSteps:=2000000) (disch:=first|exact dd|fail)[Try.f46,ho3,hR,j1,j2,j3,t1,t2,t3]);(repeat'((with_reducible first|(refine Br.out ?_ ?_<;>intro h<;>(try(have h0:=h;simp only[bH]at h)))|refine AC_snd (cO2) ?_|fail)<;>(try simp -implicitDefEqProofs (maxSteps:=2000000) (disch:=first|exact dd|fail)[Try.f46,ho3,hR,j1,j2,j3,t1,t2,t3])))
  ·have ho4:o2.1=false:=by simpa using ho3
   rw [if_neg ho3] at hR
   unfold drawF at hR
   have cV:=spec_l01Below nl o2.2 4 oO2 lO2
   have oV:=belowC_ok 4 oO2
   have hV:=user4 (c:=o2.2)
   have lV:(belowC o2.2 4).2.code.length≤1048576:=by rw [belowC_code];exact lO2
   simp only at hR
   generalize belowC o2.2 4=v at *
   have hVb:0≤v.1∧v.1 < 4:=hV
   have cM3:=spec_l01Pick nl v.2 [420,438,384,416,511] (by decide) (by decide) oV lV
   have oM3:=pickC_ok [420,438,384,416,511] oV
   have lM3:(pickC (0:Int) v.2 [420,438,384,416,511]).2.code.length≤1048576:=by rw [pickC_code];exact lV
   have hM3:(pickC (0:Int) v.2 [420,438,384,416,511]).1 ∈ ([420,438,384,416,511]:List Int):=pickC_mem (by decide)
   simp only [List.map_cons,List.map_nil,ci] at cM3
   generalize pickC (0:Int) v.2 [420,438,384,416,511]=m3 at *
   have cG3:=spec_l01Below nl m3.2 4 oM3 lM3
   have oG3:=belowC_ok 4 oM3
   have hG3:=user4 (c:=m3.2)
   have lG3:(belowC m3.2 4).2.code.length≤1048576:=by rw [belowC_code];exact lM3
   generalize belowC m3.2 4=g3 at *
   have cA3:=spec_l05Draw nl g3.2 oG3 lG3
   have oA3:=drawAcl_cur oG3
   have hA3:=drawAcl_ok g3.2
   have lA3:(drawAcl g3.2).2.code.length≤1048576:=by rw [oA3.2];exact lG3
   generalize drawAcl g3.2=a3 at *
   have cS3:=spec_l02Bytes nl a3.2 40 (by decide) oA3.1 lA3
   have oS3:=drawS_ok 40 oA3.1
   have hS3:=drawS_len (c:=a3.2) (n:=40) (by decide)
   have lS3:(drawS a3.2 40).2.code.length≤1048576:=by rw [oS3.2];exact lA3
   simp only [show ((40:Nat):Int)=40 from rfl] at cS3
   generalize drawS a3.2 40=s3 at *
   obtain ⟨V,hVe⟩:=Int.eq_ofNat_of_zero_le hVb.1
   have hV4:V < 4:=by omega
   have w3:IntKind.i64.wrap ((V:Int) * 5)=(V:Int) * 5:=wrap64_in (by omega) (by omega)
   have w4:IntKind.i64.wrap ((V:Int) * 5 + 1)=(V:Int) * 5 + 1:=wrap64_in (by omega) (by omega)
   simp only [hVe,Int.toNat_natCast] at hR
   rw [hVe] at cV hV
   have hmm3:IsMode m3.1∧iAnd m3.1 512=0:=by
    simp only [List.mem_cons,List.mem_nil_iff,or_false] at hM3
    refine ⟨⟨by omega,by omega⟩,?_⟩
    rcases hM3 with h | h | h | h | h<;>rw [h]<;>decide
   have hn3:InodeOK (freshN 1 m3.1 V g3.1 a3.1 []):=freshN_ok (.inl rfl) hmm3.1 hV hG3 hA3.1 (tr_iff.1 (isAcl_nil (l := []) rfl)) (.inr ⟨rfl,hmm3.2⟩)
   have hcut3:=cut32_ok (s:=s3.1) (by omega)
   have c9:=fun x y=>spec_l08Add x y f2 0 (V * 5 + 1) k2 102 (freshN 1 m3.1 V g3.1 a3.1 []) s3.1 hd2.fs (by omega) (by omega) (by omega) (by omega) hk2 hk2l (hz2 _ (by omega) (by omega)) hn3 (by omega)
   have h9:=addL_ok (i:=V * 5 + 1) (r:=recD (V * 5 + 1) [102]) (l:=cut32 s3.1) hd2.fs (show 0 < 20 by omega) (by omega) (by omega) (by omega) hk2 hk2l recD_len (hz2 _ (by omega) (by omega)) hn3 rfl rfl hcut3.1 hcut3.2.1 hcut3.2.2
   simp only [fresh_nBZ] at c9
   simp only [rFS,fInode,freshN,List.map_nil,Int.natCast_mul,Int.natCast_add,Int.natCast_zero,show ((5:Nat):Int)=5 from rfl,show ((1:Nat):Int)=1 from rfl,show ((0:Nat):Int)=0 from rfl] at c9
   simp only [freshN] at hR h9
   obtain ⟨f3,hf3⟩:∃ f3,f3=addL f2 0 (V * 5 + 1) ⟨1,m3.1,V,g3.1,0,0,0,[],a3.1,[]⟩ (cut32 s3.1) (recD (V * 5 + 1) [102]):=⟨_,rfl⟩
   have hR3:R=if (onceC s3.2 3).1=true∨(inodeAt f3 ((U * 5:Nat):Int)).kind≠2 then (f3,(onceC s3.2 3).2) else drawG f3 U (onceC s3.2 3).2:=by
    rw [hf3]
    exact hR
   clear hR
   rw [←hf3] at c9 h9
   have hd3:Drawn f3:=Drawn.put h9 (by omega) hd2
   have e3:inodeAt f3 ((U * 5:Nat):Int)=inodeAt f2 ((U * 5:Nat):Int):=h9.other _ (by omega) (by omega)
   have hz3:∀ j:Nat,j≠0→j≠U * 5→j≠V * 5 + 1→(inodeAt f3 (j:Int)).kind=0:=fun j h1 h2 h3=>by
    rw [h9.other _ (by simpa using h3) (by simpa using h1)]
    exact hz2 j h1 h2
   have s1:=hd3.fs.nq
   have s2:=hd3.fs.ni
   have s3l:=hd3.fs.nd
   have u1:=takeM (f:=cQuota) s1
   have u2:=takeM (f:=cInode) s2
   have u3:=takeM (f:=cs) s3l
   have hU20:U * 5 < f3.inodes.length:=by omega
   have eU:=inodeAt_nat hU20
   have hUt:((U:Int) * 5).toNat=U * 5:=by omega
   have cO3:=spec_l01Once nl s3.2 3 oS3.1 lS3
   have oO3:=onceC_ok 3 oS3.1
   have lO3:(onceC s3.2 3).2.code.length≤1048576:=by rw [onceC_code];exact lS3
   generalize onceC s3.2 3=o3 at *
   (try simp -implicitDefEqProofs (maxSteps:=2000000) (disch:=first|exact dd|fail)[Try.f46,ho4,hVe,w2,w3,w4,j1,j2,j3,t1,t2,t3]);(repeat'((with_reducible first|(refine Br.out ?_ ?_<;>intro h<;>(try(have h0:=h;simp only[bH]at h)))|refine AC_snd (cO2) ?_|refine AC_snd (cV) ?_|refine AC_snd (cM3) ?_|refine AC_snd (cG3) ?_|refine AC_snd (cA3) ?_|refine AC_snd (cS3) ?_|refine AC_snd (c9 _ _) ?_|fail)<;>(try simp -implicitDefEqProofs (maxSteps:=2000000) (disch:=first|exact dd|fail)[Try.f46,ho4,hVe,w2,w3,w4,j1,j2,j3,t1,t2,t3])))
   by_cases hx3:o3.1=true
   ·rw [if_pos (.inl hx3)] at hR3
    (try simp -implicitDefEqProofs (maxSteps:=2000000) (disch:=first|exact dd|fail)[Try.f46,hx3,hR3,s1,s2,s3l,u1,u2,u3]);(repeat'((with_reducible first|(refine Br.out ?_ ?_<;>intro h<;>(try(have h0:=h;simp only[bH]at h)))|refine AC_snd (cO3) ?_|fail)<;>(try simp -implicitDefEqProofs (maxSteps:=2000000) (disch:=first|exact dd|fail)[Try.f46,hx3,hR3,s1,s2,s3l,u1,u2,u3])))
   have hx4:o3.1=false:=by simpa using hx3
   by_cases hkd:(inodeAt f3 ((U * 5:Nat):Int)).kind=2
   ·rw [if_neg (fun hh=>hh.elim hx3 (fun h=>h hkd))] at hR3
    have hkd2:=hkd
    rw [eU] at hkd2
    have hdk:=(hnew (by rw [←e3];exact hkd)).keep e3
    unfold drawG at hR3
    have cW:=spec_l01Below nl o3.2 4 oO3 lO3
    have oW:=belowC_ok 4 oO3
    have hW:=user4 (c:=o3.2)
    have lW:(belowC o3.2 4).2.code.length≤1048576:=by rw [belowC_code];exact lO3
    simp only at hR3
    generalize belowC o3.2 4=w at *
    have hWb:0≤w.1∧w.1 < 4:=hW
    have cM4:=spec_l01Pick nl w.2 [420,438,384] (by decide) (by decide) oW lW
    have oM4:=pickC_ok [420,438,384] oW
    have lM4:(pickC (0:Int) w.2 [420,438,384]).2.code.length≤1048576:=by rw [pickC_code];exact lW
    have hM4:(pickC (0:Int) w.2 [420,438,384]).1 ∈ ([420,438,384]:List Int):=pickC_mem (by decide)
    simp only [List.map_cons,List.map_nil,ci] at cM4
    generalize pickC (0:Int) w.2 [420,438,384]=m4 at *
    have cG4:=spec_l01Below nl m4.2 4 oM4 lM4
    have oG4:=belowC_ok 4 oM4
    have hG4:=user4 (c:=m4.2)
    have lG4:(belowC m4.2 4).2.code.length≤1048576:=by rw [belowC_code];exact lM4
    generalize belowC m4.2 4=g4 at *
    have cS4:=spec_l02Bytes nl g4.2 9 (by decide) oG4 lG4
    have oS4:=drawS_ok 9 oG4
    have hS4:=drawS_len (c:=g4.2) (n:=9) (by decide)
    have lS4:(drawS g4.2 9).2.code.length≤1048576:=by rw [oS4.2];exact lG4
    simp only [show ((9:Nat):Int)=9 from rfl] at cS4
    generalize drawS g4.2 9=s4 at *
    obtain ⟨W,hWe⟩:=Int.eq_ofNat_of_zero_le hWb.1
    have hW4:W < 4:=by omega
    have w5:IntKind.i64.wrap ((W:Int) * 5)=(W:Int) * 5:=wrap64_in (by omega) (by omega)
    have w6:IntKind.i64.wrap ((W:Int) * 5 + 2)=(W:Int) * 5 + 2:=wrap64_in (by omega) (by omega)
    simp only [hWe,Int.toNat_natCast] at hR3
    rw [hWe] at cW hW
    have hmm4:IsMode m4.1∧iAnd m4.1 512=0:=by
     simp only [List.mem_cons,List.mem_nil_iff,or_false] at hM4
     refine ⟨⟨by omega,by omega⟩,?_⟩
     rcases hM4 with h | h | h<;>rw [h]<;>decide
    have hn4:InodeOK (freshN 1 m4.1 W g4.1 [] []):=freshN_ok (.inl rfl) hmm4.1 hW hG4 (tr_iff.1 (isAcl_nil (l := []) rfl)) (tr_iff.1 (isAcl_nil (l := []) rfl)) (.inr ⟨rfl,hmm4.2⟩)
    have hcut4:=cut32_ok (s:=s4.1) (by omega)
    have c10:=fun x y=>spec_l08Add x y f3 (U * 5) (W * 5 + 2) 0 103 (freshN 1 m4.1 W g4.1 [] []) s4.1 hd3.fs (by omega) (by omega) (by omega) (by omega) hdk (by omega) (hz3 _ (by omega) (by omega) (by omega)) hn4 (by omega)
    have h10:=addL_ok (i:=W * 5 + 2) (r:=recD (W * 5 + 2) [103]) (l:=cut32 s4.1) hd3.fs (show U * 5 < 20 by omega) (by omega) (by omega) (by omega) hdk (by omega) recD_len (hz3 _ (by omega) (by omega) (by omega)) hn4 rfl rfl hcut4.1 hcut4.2.1 hcut4.2.2
    simp only [fresh_nBZ] at c10
    simp only [rFS,fInode,freshN,List.map_nil,Int.natCast_mul,Int.natCast_add,show ((5:Nat):Int)=5 from rfl,show ((2:Nat):Int)=2 from rfl] at c10
    simp only [freshN] at hR3 h10
    generalize addL f3 (U * 5) (W * 5 + 2) ⟨1,m4.1,W,g4.1,0,0,0,[],[],[]⟩ (cut32 s4.1) (recD (W * 5 + 2) [103])=f4 at *
    have hd4:Drawn f4:=Drawn.put h10 (by omega) hd3
    obtain ⟨k4,hk4l,hk4⟩:=h10.dir hdk rfl
    have hz4:(inodeAt f4 ((U * 5 + 3:Nat):Int)).kind=0:=by
     rw [h10.other _ (by omega) (by omega)]
     exact hz3 _ (by omega) (by omega) (by omega)
    have v1:=hd4.fs.nq
    have v2:=hd4.fs.ni
    have v3:=hd4.fs.nd
    have y1:=takeM (f:=cQuota) v1
    have y2:=takeM (f:=cInode) v2
    have y3:=takeM (f:=cs) v3
    have cO4:=spec_l01Once nl s4.2 2 oS4.1 lS4
    have oO4:=onceC_ok 2 oS4.1
    have lO4:(onceC s4.2 2).2.code.length≤1048576:=by rw [onceC_code];exact lS4
    unfold drawD at hR3
    generalize onceC s4.2 2=o4 at *
    (try simp -implicitDefEqProofs (maxSteps:=2000000) (disch:=first|exact dd|fail)[Try.f46,hx4,hkd2,hUt,hWe,w2,w5,w6,hU20,s1,s2,s3l,u1,u2,u3,cInode]);(repeat'((with_reducible first|(refine Br.out ?_ ?_<;>intro h<;>(try(have h0:=h;simp only[bH]at h)))|refine AC_snd (cO3) ?_|refine AC_snd (cW) ?_|refine AC_snd (cM4) ?_|refine AC_snd (cG4) ?_|refine AC_snd (cS4) ?_|refine AC_snd (c10 _ _) ?_|fail)<;>(try simp -implicitDefEqProofs (maxSteps:=2000000) (disch:=first|exact dd|fail)[Try.f46,hx4,hkd2,hUt,hWe,w2,w5,w6,hU20,s1,s2,s3l,u1,u2,u3,cInode])))
    by_cases hx5:o4.1=true
    ·rw [if_pos hx5] at hR3
     have cG5:=spec_l01Below nl o4.2 4 oO4 lO4
     have hG5:=user4 (c:=o4.2)
     generalize belowC o4.2 4=g5 at *
     have hU3:(show IsUser (U:Int) from ⟨by omega,by omega⟩)=(show IsUser (U:Int) from ⟨by omega,by omega⟩):=rfl
     have hn5:InodeOK (freshN 2 493 U g5.1 [] []):=freshN_ok (.inr rfl) (show IsMode 493 from ⟨by decide,by decide⟩) (show IsUser (U:Int) from ⟨by omega,by omega⟩) hG5 (tr_iff.1 (isAcl_nil (l := []) rfl)) (tr_iff.1 (isAcl_nil (l := []) rfl)) (.inl rfl)
     have c11:=fun x y=>spec_l08Add x y f4 (U * 5) (U * 5 + 3) k4 100 (freshN 2 493 U g5.1 [] []) [] hd4.fs (by omega) (by omega) (by omega) (by omega) hk4 hk4l hz4 hn5 (by decide)
     rw [hcut0] at c11
     simp only [fresh_nBZ] at c11
     simp only [rFS,fInode,freshN,List.map_nil,Int.natCast_mul,Int.natCast_add,show ((5:Nat):Int)=5 from rfl,show ((3:Nat):Int)=3 from rfl] at c11
     simp only [freshN] at hR3
     have w7:IntKind.i64.wrap ((U:Int) * 5 + 3)=(U:Int) * 5 + 3:=wrap64_in (by omega) (by omega)
     generalize addL f4 (U * 5) (U * 5 + 3) ⟨2,493,U,g5.1,0,0,0,[],[],[]⟩ [] (recD (U * 5 + 3) [100])=f5 at *
     have z1:=takeM (f:=cQuota) (rfl:f5.quotas.length=f5.quotas.length)
     have z2:=takeM (f:=cInode) (rfl:f5.inodes.length=f5.inodes.length)
     have z3:=takeM (f:=cs) (rfl:f5.data.length=f5.data.length)
     (try simp -implicitDefEqProofs (maxSteps:=2000000) (disch:=first|exact dd|fail)[Try.f46,hx5,hR3,w2,w7,v1,v2,v3,y1,y2,y3,z1,z2,z3]);(repeat'((with_reducible first|(refine Br.out ?_ ?_<;>intro h<;>(try(have h0:=h;simp only[bH]at h)))|refine AC_snd (cO4) ?_|refine AC_snd (cG5) ?_|refine AC_snd (c11 _ _) ?_|fail)<;>(try simp -implicitDefEqProofs (maxSteps:=2000000) (disch:=first|exact dd|fail)[Try.f46,hx5,hR3,w2,w7,v1,v2,v3,y1,y2,y3,z1,z2,z3])))
    ·have hx6:o4.1=false:=by simpa using hx5
     rw [if_neg hx5] at hR3
     (try simp -implicitDefEqProofs (maxSteps:=2000000) (disch:=first|exact dd|fail)[Try.f46,hx6,hR3,v1,v2,v3,y1,y2,y3]);(repeat'((with_reducible first|(refine Br.out ?_ ?_<;>intro h<;>(try(have h0:=h;simp only[bH]at h)))|refine AC_snd (cO4) ?_|fail)<;>(try simp -implicitDefEqProofs (maxSteps:=2000000) (disch:=first|exact dd|fail)[Try.f46,hx6,hR3,v1,v2,v3,y1,y2,y3])))
   ·rw [if_pos (.inr hkd)] at hR3
    have hkd2:=hkd
    rw [eU] at hkd2
    (try simp -implicitDefEqProofs (maxSteps:=2000000) (disch:=first|exact dd|fail)[Try.f46,hx4,hkd2,hUt,hU20,w2,hR3,s1,s2,s3l,u1,u2,u3,cInode]);(repeat'((with_reducible first|(refine Br.out ?_ ?_<;>intro h<;>(try(have h0:=h;simp only[bH]at h)))|refine AC_snd (cO3) ?_|fail)<;>(try simp -implicitDefEqProofs (maxSteps:=2000000) (disch:=first|exact dd|fail)[Try.f46,hx4,hkd2,hUt,hU20,w2,hR3,s1,s2,s3l,u1,u2,u3,cInode])))
end Go.Proofs.Ytfkkfhafijgdaaa
