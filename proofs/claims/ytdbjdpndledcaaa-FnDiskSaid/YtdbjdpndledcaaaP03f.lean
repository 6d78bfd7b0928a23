import Derived.Test.YtdbjdpndledcaaaP03e
import Derived.Test.YtdbjdpndledcaaaP01h
namespace Go.Proofs.Ytdbjdpndledcaaa
open Go.Fw
set_option linter.unusedVariables false
set_option linter.unusedSimpArgs false
set_option maxHeartbeats 1000000
set_option maxRecDepth 8000
theorem impl_SameDisk (n1 n2 n3 n4:Option Bool) (a b:DDisk) (h1:a.secs.length≤1048576) (h2:a.pend.length≤1048576):Snd Try.prog 11 [fDisk n1 n2 a,fDisk n3 n4 b] (.bool (decide (a=b))) [.unk, .unk]:=Runs.snd (M:=M) (c:=⟨2,[2,3,4],[],[]⟩) tok ks mixed Try.func11 (p := []) (by kernel_rfl) (by rfl) (by rfl) <| by
 have c1:=slices_EqualStr n1 n3 a.secs b.secs h1
 have c2:=slices_EqualWrite n2 n4 a.pend b.pend h2
 obtain ⟨a1,a2⟩:=a
 obtain ⟨b1,b2⟩:=b
 simp only [DDisk.mk.injEq] at *
 by_cases e1:a1=b1
 ·by_cases e2:a2=b2
  ·simp only [e1,e2,decide_true,and_self] at *
   (try simp -implicitDefEqProofs (disch:=first|exact dd|fail)[Try.f11]);(repeat'((with_reducible first|(refine Br.out ?_ ?_<;>intro h<;>(try(have h0:=h;simp only[bH]at h)))|refine AC_snd (c1) ?_|refine AC_snd (c2) ?_|fail)<;>(try simp -implicitDefEqProofs (disch:=first|exact dd|fail)[Try.f11])))
  ·simp only [e1,e2,decide_true,decide_false,and_false] at *
   (try simp -implicitDefEqProofs (disch:=first|exact dd|fail)[Try.f11]);(repeat'((with_reducible first|(refine Br.out ?_ ?_<;>intro h<;>(try(have h0:=h;simp only[bH]at h)))|refine AC_snd (c1) ?_|refine AC_snd (c2) ?_|fail)<;>(try simp -implicitDefEqProofs (disch:=first|exact dd|fail)[Try.f11])))
 ·simp only [e1,decide_false,false_and] at *
  (try simp -implicitDefEqProofs (disch:=first|exact dd|fail)[Try.f11]);(repeat'((with_reducible first|(refine Br.out ?_ ?_<;>intro h<;>(try(have h0:=h;simp only[bH]at h)))|refine AC_snd (c1) ?_|refine AC_snd (c2) ?_|fail)<;>(try simp -implicitDefEqProofs (disch:=first|exact dd|fail)[Try.f11])))
theorem impl_FlushDisk (n1 n2:Option Bool) (d:DDisk) (hd:isDisk d=true):Snd Try.prog 7 [fDisk n1 n2 d] (rDisk ⟨storeAll d.secs d.pend,[]⟩) [.unk]:=Runs.snd (M:=M) (c:=⟨1,[1,2,3,7],[],[]⟩) tok ks mixed Try.func7 (p := []) (by kernel_rfl) (by rfl) (by rfl) <| by
 have h:=isDisk_iff.1 hd
 have cI:=impl_IsDisk n1 n2 d (by omega) (by omega)
 rw [hd] at cI
 have cD:=impl_copyDisk n1 n2 d (by omega) (by omega)
 have cK:=impl_keepAll d hd
 have hSl:=storeAll_len (secs:=d.secs) (ws:=d.pend)
 generalize storeAll d.secs d.pend=S at *
 have t1:=takeM (f:=cs) hSl
 have t2:=takeM (f:=cs) (rfl:d.secs.length=d.secs.length)
 have t3:=takeM (f:=cWrite) (rfl:d.pend.length=d.pend.length)
 simp only [rDisk,List.map_nil] at cD ⊢
 (try simp -implicitDefEqProofs (disch:=first|exact dd|fail)[Try.f7,t1,t2,t3,hSl]);(repeat'((with_reducible first|(refine Br.out ?_ ?_<;>intro h<;>(try(have h0:=h;simp only[bH]at h)))|refine AC_snd (cI) ?_|refine AC_snd (cD) ?_|refine AC_snd (cK) ?_|fail)<;>(try simp -implicitDefEqProofs (disch:=first|exact dd|fail)[Try.f7,t1,t2,t3,hSl])))
theorem spec_NewDiskN (m:Nat) (hm1:1≤m) (hm:m≤400):Snd Try.prog 24 [.int .i64 m] (rDisk ⟨List.replicate m zero32,[]⟩) [.unk]:=Runs.snd (M:=M) (c:=⟨1,[2,3,7,13],[],[]⟩) tok ks mixed Try.func24 (p := []) (by kernel_rfl) (by rfl) (by rfl) <| by
 obtain ⟨R,hR⟩:∃ R,R=List.replicate m [AV.str zero32]:=⟨_,rfl⟩
 have hRm:(List.replicate m zero32).map cs=R:=by rw [hR,List.map_replicate];rfl
 have hRl:R.length=m:=by rw [hR];simp
 simp only [rDisk,hRm]
 have g1:(0:Int)≤m:=by omega
 have g2:(m:Int)≤400:=by omega
 (try simp -implicitDefEqProofs (disch:=first|exact dd|fail)[Try.f24,g1,g2]);(repeat'((with_reducible first|(refine Br.out ?_ ?_<;>intro h<;>(try(have h0:=h;simp only[bH]at h)))|refine AC_snd (spec_l01In _ _ _) ?_|fail)<;>(try simp -implicitDefEqProofs (disch:=first|exact dd|fail)[Try.f24,g1,g2])))
 refine AL_up (fun (j:Nat)=>m - j) (fun (j:Nat) => []) (fun (j:Nat)=>if j=0 then [] else [(384, .box [.ref 386 none 1 0 j none, .frz 2 (some true) []]),(386, .row 1 (List.replicate j [AV.str zero32]) [])]) (fun j=>j≤m) 0 (by simp) (by omega) ?_
 intro j n2 hj ih
 rcases Nat.lt_or_ge j m with hlt | hge
 ·have hjj:=ih (j + 1) (by omega) (by omega)
  rw [if_neg (by omega),List.replicate_succ'] at hjj
  have hl4:(j:Int) < m:=by omega
  rcases j with _ | j
  ·have hl0:0 < m:=by omega
   (try simp -implicitDefEqProofs (disch:=first|exact dd|fail)[Try.f24,hl0]);(repeat'((with_reducible first|(refine Br.out ?_ ?_<;>intro h<;>(try(have h0:=h;simp only[bH]at h)))|refine AC_snd (spec_PadTo0) ?_|fail)<;>(try simp -implicitDefEqProofs (disch:=first|exact dd|fail)[Try.f24,hl0])))
   all_goals first | exact hjj
  ·have hlen2:(List.replicate (j + 1) [AV.str zero32]).length=j + 1:=by simp
   generalize List.replicate (j + 1) [AV.str zero32]=D at *
   have hG:List.take (j + 1) D=D:=List.take_of_length_le (by omega)
   have h30:j + 1≤1073741823:=by omega
   have hl5:(j:Int) + 1 < m:=by omega
   simp only [Nat.add_eq_zero_iff,Nat.one_ne_zero,and_false,if_false]
   (try simp -implicitDefEqProofs (disch:=first|exact dd|fail)[Try.f24,hl4,hl5,hlen2,hG,h30]);(repeat'((with_reducible first|(refine Br.out ?_ ?_<;>intro h<;>(try(have h0:=h;simp only[bH]at h)))|refine AC_snd (spec_PadTo0) ?_|fail)<;>(try simp -implicitDefEqProofs (disch:=first|exact dd|fail)[Try.f24,hl4,hl5,hlen2,hG,h30])))
   all_goals first | exact hjj
 ·have h73:j=m:=by omega
  subst h73
  rw [if_neg (by omega),←hR]
  have htk:List.take j R=R:=List.take_of_length_le (by omega)
  (try simp -implicitDefEqProofs (disch:=first|exact dd|fail)[Try.f24,hRl,htk]);(repeat'((with_reducible first|(refine Br.out ?_ ?_<;>intro h<;>(try(have h0:=h;simp only[bH]at h)))|fail)<;>(try simp -implicitDefEqProofs (disch:=first|exact dd|fail)[Try.f24,hRl,htk])))
def sdL (c:DCur) (m:Nat):Nat→List Str × DCur
 | 0=>(List.replicate m zero32,c)
 | k + 1=>((sdL c m k).1.set k (secC (sdL c m k).2).1,(secC (sdL c m k).2).2)
theorem sdL_succ {c:DCur} {m k:Nat}:sdL c m (k + 1)=((sdL c m k).1.set k (secC (sdL c m k).2).1,(secC (sdL c m k).2).2):=rfl
theorem sdL_ok {c:DCur} {m:Nat} (h:CurOK c):∀ k,CurOK (sdL c m k).2∧(sdL c m k).2.code=c.code∧(sdL c m k).1.length=m∧(∀ s ∈ (sdL c m k).1,s.length=32)
 | 0=>⟨h,rfl,by simp [sdL],fun s hs=>by
   unfold sdL at hs
   rw [List.eq_of_mem_replicate hs]
   rfl⟩
 | k + 1=>by
  obtain ⟨h1,h2,h3,h4⟩:=sdL_ok (m:=m) h k
  obtain ⟨s1,s2,s3⟩:=secC_ok h1
  rw [sdL_succ]
  refine ⟨s2,s3.trans h2,by simpa using h3,fun s hs => ?_⟩
  rcases List.mem_or_eq_of_mem_set hs with h6 | h6
  ·exact h4 s h6
  ·rw [h6];exact s1
def pdL (c:DCur) (m:Nat):Nat→List DWrite × DCur
 | 0=>([],c)
 | k + 1=>((pdL c m k).1 ++ [⟨(belowC (pdL c m k).2 m).1,(secC (belowC (pdL c m k).2 m).2).1⟩],(secC (belowC (pdL c m k).2 m).2).2)
theorem pdL_succ {c:DCur} {m k:Nat}:pdL c m (k + 1)=((pdL c m k).1 ++ [⟨(belowC (pdL c m k).2 m).1,(secC (belowC (pdL c m k).2 m).2).1⟩],(secC (belowC (pdL c m k).2 m).2).2):=rfl
theorem pdL_ok {c:DCur} {m:Nat} (h:CurOK c) (hm:1≤m):∀ k,CurOK (pdL c m k).2∧(pdL c m k).2.code=c.code∧(pdL c m k).1.length=k∧(∀ w ∈ (pdL c m k).1,0≤w.sec∧w.sec < m∧w.data.length=32)
 | 0=>⟨h,rfl,rfl,by simp [pdL]⟩
 | k + 1=>by
  obtain ⟨h1,h2,h3,h4⟩:=pdL_ok (m:=m) h hm k
  have hb:=belowC_val (pdL c m k).2 (n:=(m:Int)) (by omega)
  have o1:=belowC_ok (m:Int) h1
  have d1:=belowC_code (pdL c m k).2 (m:Int)
  obtain ⟨s1,s2,s3⟩:=secC_ok o1
  rw [pdL_succ]
  refine ⟨s2,by rw [s3,d1,h2],by simp [h3],fun w hw => ?_⟩
  rcases List.mem_append.1 hw with h6 | h6
  ·exact h4 w h6
  ·rw [List.mem_singleton] at h6
   rw [h6]
   exact ⟨hb.1,hb.2,s1⟩
def mdN (c:DCur):Nat:=1 + (belowC c 4).1.toNat
def mdS (c:DCur):List Str × DCur:=sdL (belowC c 4).2 (mdN c) (mdN c)
def mdP (c:DCur):List DWrite × DCur:=pdL (belowC (mdS c).2 4).2 (mdN c) (belowC (mdS c).2 4).1.toNat
theorem spec_l03Draw (nl:Option Bool) (c:DCur) (hc:CurOK c) (hl:c.code.length≤1048576):Snd Try.prog 12 [wCur nl c] (rDisk ⟨(mdS c).1,(mdP c).1⟩) [wCur nl (mdP c).2]:=Runs.snd (M:=M) (c:=⟨1,[2,3,4,5,12,13,14,26],[],[(1,[0,2,3,5,12,13,14,26])]⟩) tok ks mixed Try.func12 (p := [0]) (by kernel_rfl) (by rfl) (by rfl) <| by
 obtain ⟨Q,hQ⟩:∃ Q,Q=mdP c:=⟨_,rfl⟩
 obtain ⟨W,hW⟩:∃ W,W=mdS c:=⟨_,rfl⟩
 rw [←hQ,←hW]
 have c1:=spec_l01Below nl c 4 hc hl
 have hb:=belowC_val c (n:=4) (by decide)
 have o1:=belowC_ok 4 hc
 have d1:=belowC_code c 4
 unfold mdP at hQ
 rw [←hW] at hQ
 unfold mdS mdN at hW
 unfold mdN at hQ
 generalize belowC c 4=x at *
 obtain ⟨m,hm⟩:∃ m,m=1 + x.1.toNat:=⟨_,rfl⟩
 rw [←hm] at hW hQ
 have hm4:1≤m∧m≤4:=by omega
 have hxm:1 + x.1=(m:Int):=by omega
 have w0:IntKind.i64.wrap (1 + x.1)=m:=by rw [hxm,wrap64_in (by omega) (by omega)]
 have cN:=spec_NewDiskN m hm4.1 (by omega)
 have hz1:(sdL x.2 m 0).1=List.replicate m zero32:=rfl
 have hz2:(sdL x.2 m 0).2=x.2:=rfl
 rw [←hz1] at cN
 have hlz:=(sdL_ok (m:=m) o1 0).2.2.1
 simp only [rDisk,List.map_nil] at cN ⊢
 (try simp -implicitDefEqProofs (disch:=first|exact dd|fail)[Try.f12,w0,hlz]);(repeat'((with_reducible first|(refine Br.out ?_ ?_<;>intro h<;>(try(have h0:=h;simp only[bH]at h)))|refine AC_snd (c1) ?_|refine AC_snd (cN) ?_|fail)<;>(try simp -implicitDefEqProofs (disch:=first|exact dd|fail)[Try.f12,w0,hlz])))
 refine AL_up (fun (j:Nat)=>m - j) (fun (j:Nat) => [(13, .int .i64 j)]) (fun (j:Nat) => [(0, .box [.frz 1 nl ((sdL x.2 m j).2.code.map cu), .int .i64 (sdL x.2 m j).2.i, .int .i64 (sdL x.2 m j).2.h]),(386, .row 1 ((sdL x.2 m j).1.map cs) [])]) (fun j=>j≤m) 0 (by rw [hz2];rfl) (by omega) ?_
 intro j n1 hj ih
 obtain ⟨q1,q2,q3,q4⟩:=sdL_ok (m:=m) o1 j
 have htk:=takeM (f:=cs) q3
 rcases Nat.lt_or_ge j m with hlt | hge
 ·have hjj:=ih (j + 1) (by omega) (by omega)
  rw [sdL_succ] at hjj
  have c2:=spec_l03Sector nl (sdL x.2 m j).2 q1 (by rw [q2,d1];exact hl)
  generalize sdL x.2 m j=X at *
  generalize secC X.2=y at *
  simp only [List.map_set,cs] at hjj
  have hi3:(j:Int) < m:=by omega
  (try simp -implicitDefEqProofs (disch:=first|exact dd|fail)[Try.f12,hlt,hi3,q3,htk]);(repeat'((with_reducible first|(refine Br.out ?_ ?_<;>intro h<;>(try(have h0:=h;simp only[bH]at h)))|refine AC_snd (c2) ?_|fail)<;>(try simp -implicitDefEqProofs (disch:=first|exact dd|fail)[Try.f12,hlt,hi3,q3,htk])))
  all_goals first | exact hjj
 ·have h3:j=m:=by omega
  rw [h3] at q1 q2 q3 htk ⊢
  rw [←hW] at q1 q2 q3 htk ⊢
  have c3:=spec_l01Below nl W.2 4 q1 (by rw [q2,d1];exact hl)
  have hb3:=belowC_val W.2 (n:=4) (by decide)
  have o3:=belowC_ok 4 q1
  have d3:=belowC_code W.2 4
  generalize belowC W.2 4=v at *
  obtain ⟨e,he⟩:=Int.eq_ofNat_of_zero_le hb3.1
  rw [he] at c3
  simp only [he,Int.toNat_natCast] at hQ
  have hz3:pdL v.2 m 0=([],v.2):=rfl
  have hmm:¬ (m:Int) < m:=by omega
  (try simp -implicitDefEqProofs (disch:=first|exact dd|fail)[Try.f12,hmm,q3]);(repeat'((with_reducible first|(refine Br.out ?_ ?_<;>intro h<;>(try(have h0:=h;simp only[bH]at h)))|refine AC_snd (c3) ?_|fail)<;>(try simp -implicitDefEqProofs (disch:=first|exact dd|fail)[Try.f12,hmm,q3])))
  refine AL_up (fun (k:Nat)=>e - k) (fun (k:Nat) => [(5, .int .i64 ((e:Int) - k))]) (fun (k:Nat) => [(0, .box [.frz 1 nl ((pdL v.2 m k).2.code.map cu), .int .i64 (pdL v.2 m k).2.i, .int .i64 (pdL v.2 m k).2.h]),(384, .box [.ref 386 none 1 0 m none, .ref 388 none 2 0 k none]),(388, .row 2 ((pdL v.2 m k).1.map cWrite) [])]) (fun k=>k≤e) 0 (by rw [hz3];simp) (by omega) ?_
  intro k n2 hk jh
  obtain ⟨p1,p2,p3,p4⟩:=pdL_ok (m:=m) o3 hm4.1 k
  have hpk:=takeM (f:=cWrite) p3
  rcases Nat.lt_or_ge k e with hlt | hge
  ·have hjj:=jh (k + 1) (by omega) (by omega)
   rw [pdL_succ] at hjj
   generalize pdL v.2 m k=X at *
   have c4:=spec_l01Below nl X.2 m p1 (by rw [p2,d3,q2,d1];exact hl)
   have o4:=belowC_ok (m:Int) p1
   have d4:=belowC_code X.2 (m:Int)
   generalize belowC X.2 (m:Int)=y at *
   have c5:=spec_l03Sector nl y.2 o4 (by rw [d4,p2,d3,q2,d1];exact hl)
   generalize secC y.2=z at *
   simp only [List.map_append,List.map_cons,List.map_nil,cWrite] at hjj
   have hgt:(0:Int) < (e:Int) - k:=by omega
   have e1:(e:Int) - ((k + 1:Nat):Int)=(e:Int) - k - 1:=by omega
   rw [e1] at hjj
   have h30:k≤1073741823:=by omega
   (try simp -implicitDefEqProofs (disch:=first|exact dd|fail)[Try.f12,hgt,q3,p3,hpk,h30]);(repeat'((with_reducible first|(refine Br.out ?_ ?_<;>intro h<;>(try(have h0:=h;simp only[bH]at h)))|refine AC_snd (c4) ?_|refine AC_snd (c5) ?_|fail)<;>(try simp -implicitDefEqProofs (disch:=first|exact dd|fail)[Try.f12,hgt,q3,p3,hpk,h30])))
   all_goals first | exact hjj
  ·have h1:k=e:=by omega
   rw [h1] at p3 hpk ⊢
   rw [←hQ] at p3 hpk ⊢
   have hgt:¬ (0:Int) < (e:Int) - e:=by omega
   (try simp -implicitDefEqProofs (disch:=first|exact dd|fail)[Try.f12,hgt,q3,htk,p3,hpk]);(repeat'((with_reducible first|(refine Br.out ?_ ?_<;>intro h<;>(try(have h0:=h;simp only[bH]at h)))|fail)<;>(try simp -implicitDefEqProofs (disch:=first|exact dd|fail)[Try.f12,hgt,q3,htk,p3,hpk])))
def mkD (code:Str):DDisk:=⟨(mdS (newC code)).1,(mdP (newC code)).1⟩
theorem mkD_ok (code:Str):isDisk (mkD code)=true∧(1≤(mkD code).secs.length∧(mkD code).secs.length≤4)∧(mkD code).pend.length≤3:=by
 have o0:=newC_ok code
 unfold mkD mdP mdS mdN
 generalize newC code=c at *
 have hb:=belowC_val c (n:=4) (by decide)
 have o1:=belowC_ok 4 o0
 generalize belowC c 4=x at *
 obtain ⟨q1,q2,q3,q4⟩:=sdL_ok (m:=1 + x.1.toNat) o1 (1 + x.1.toNat)
 generalize sdL x.2 (1 + x.1.toNat) (1 + x.1.toNat)=W at *
 have hb3:=belowC_val W.2 (n:=4) (by decide)
 have o3:=belowC_ok 4 q1
 generalize belowC W.2 4=v at *
 obtain ⟨p1,p2,p3,p4⟩:=pdL_ok (m:=1 + x.1.toNat) o3 (by omega) v.1.toNat
 generalize pdL v.2 (1 + x.1.toNat) v.1.toNat=P at *
 refine ⟨isDisk_iff.2 ⟨by simp only;omega,by simp only;omega,q4,fun w hw => ?_⟩,by simp only;omega,by simp only;omega⟩
 have:=p4 w hw
 simp only
 omega
theorem spec_MakeDisk (nl:Option Bool) (code:Str) (hl:code.length≤1048576):Snd Try.prog 4 [.frz 1 nl (code.map cu)] (rDisk (mkD code)) [.unk]:=Runs.snd (M:=M) (c:=⟨1,[2],[],[]⟩) tok ks mixed Try.func4 (p := []) (by kernel_rfl) (by rfl) (by rfl) <| by
 have c1:=spec_l01New nl code hl
 have e2:(newC code).code=code:=rfl
 have o1:=newC_ok code
 unfold mkD
 generalize newC code=c at *
 have c2:=spec_l03Draw nl c o1 (by rw [e2];exact hl)
 generalize mdS c=W at *
 generalize mdP c=Q at *
 have t1:=takeM (f:=cs) (rfl:W.1.length=W.1.length)
 have t2:=takeM (f:=cWrite) (rfl:Q.1.length=Q.1.length)
 (try simp -implicitDefEqProofs (disch:=first|exact dd|fail)[Try.f4,t1,t2]);(repeat'((with_reducible first|(refine Br.out ?_ ?_<;>intro h<;>(try(have h0:=h;simp only[bH]at h)))|refine AC_snd (c1) ?_|refine AC_snd (c2) ?_|fail)<;>(try simp -implicitDefEqProofs (disch:=first|exact dd|fail)[Try.f4,t1,t2])))
end Go.Proofs.Ytdbjdpndledcaaa
