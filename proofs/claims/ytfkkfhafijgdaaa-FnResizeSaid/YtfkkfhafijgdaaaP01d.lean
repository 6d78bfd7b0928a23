import Derived.Test.YtfkkfhafijgdaaaP01b
import Derived.Test.YtfkkfhafijgdaaaP08
import Derived.Test.YtfkkfhafijgdaaaP12
namespace Go.Proofs.Ytfkkfhafijgdaaa
open Go.Fw
set_option linter.unusedVariables false
set_option linter.unusedSimpArgs false
set_option maxHeartbeats 1000000
set_option maxRecDepth 8000
theorem quoL_cur {c:DCur} (h:CurOK c):∀ n,CurOK (quoL c n).2∧(quoL c n).2.code=c.code
 | 0=>by
  unfold quoL
  exact ⟨h,rfl⟩
 | n + 1=>by
  obtain ⟨h1,h2⟩:=quoL_cur h n
  rw [quoL_succ]
  generalize quoL c n=Q at *
  unfold quoStep
  exact ⟨pickC_ok _ (pickC_ok _ h1),by simp only [pickC_code,h2]⟩
theorem drawQ_cur {c:DCur} (h:CurOK c):CurOK (drawQ c).2∧(drawQ c).2.code=c.code:=by
 unfold drawQ
 exact quoL_cur h 4
theorem spec_l08Quotas (nl:Option Bool) (c:DCur) (hc:CurOK c) (hl:c.code.length≤1048576):Snd Try.prog 107 [wCur nl c] (.row 2 ((drawQ c).1.map cQuota)) [wCur nl (drawQ c).2]:=Runs.snd (M:=M) (c:=⟨1,[2,3,4,7],[],[]⟩) tok ks mixed Try.func107 (p := [0]) (by kernel_rfl) (by rfl) (by rfl) <| by
 unfold drawQ
 obtain ⟨Q4,hQ4⟩:∃ Q,Q=quoL c 4:=⟨_,rfl⟩
 rw [←hQ4]
 have hz:quoL c 0=([],c):=by unfold quoL;rfl
 (try simp -implicitDefEqProofs (disch:=first|exact dd|fail)[Try.f107]);(repeat'((with_reducible first|(refine Br.out ?_ ?_<;>intro h<;>(try(have h0:=h;simp only[bH]at h)))|fail)<;>(try simp -implicitDefEqProofs (disch:=first|exact dd|fail)[Try.f107])))
 refine AL_up (fun (j:Nat)=>4 - j) (fun (j:Nat) => [(3, .ref 384 none 2 0 j (some false)),(4, .int .i64 j)]) (fun (j:Nat) => [(0, .box [.frz 1 nl ((quoL c j).2.code.map cu), .int .i64 (quoL c j).2.i, .int .i64 (quoL c j).2.h]),(384, .row 2 ((quoL c j).1.map cQuota) [])]) (fun j=>j≤4) 0 (by rw [hz];simp) (by omega) ?_
 intro j n1 hj ih
 obtain ⟨q1,q2⟩:=quoL_cur hc j
 have hlen:=(quoL_ok c j).1
 rcases Nat.lt_or_ge j 4 with hlt | hge
 ·have hjj:=ih (j + 1) (by omega) (by omega)
  rw [quoL_succ] at hjj
  generalize quoL c j=Q at *
  have c2:=spec_l01Pick nl Q.2 [5,5,5,4,3,2] (by decide) (by decide) q1 (by rw [q2];exact hl)
  have o2:=pickC_ok [5,5,5,4,3,2] q1
  have d2:=pickC_code Q.2 [5,5,5,4,3,2]
  unfold quoStep at hjj
  generalize pickC (0:Int) Q.2 [5,5,5,4,3,2]=x at *
  have c3:=spec_l01Pick nl x.2 [14,14,10,5,3] (by decide) (by decide) o2 (by rw [d2,q2];exact hl)
  generalize pickC (0:Int) x.2 [14,14,10,5,3]=y at *
  simp only [List.map_cons,List.map_nil,ci] at c2 c3
  simp only [List.map_append,List.map_cons,List.map_nil,cQuota] at hjj
  have htk:=takeM (f:=cQuota) hlen
  have hi4:(j:Int) < 4:=by omega
  have h30:j≤1073741823:=by omega
  (try simp -implicitDefEqProofs (disch:=first|exact dd|fail)[Try.f107,hi4,hlen,htk,h30]);(repeat'((with_reducible first|(refine Br.out ?_ ?_<;>intro h<;>(try(have h0:=h;simp only[bH]at h)))|refine AC_snd (c2) ?_|refine AC_snd (c3) ?_|fail)<;>(try simp -implicitDefEqProofs (disch:=first|exact dd|fail)[Try.f107,hi4,hlen,htk,h30])))
  all_goals first | exact hjj
 ·have h4:j=4:=by omega
  rw [h4] at hlen ⊢
  rw [←hQ4] at hlen ⊢
  generalize Q4=Q at *
  have htk:=takeM (f:=cQuota) (xs:=Q.1.set 0 ⟨5,14⟩) (n:=4) (by rw [List.length_set,hlen])
  rw [List.map_set] at htk
  simp only [cQuota] at htk
  have hcq:cQuota=fun q => [AV.int .i64 q.inodes, .int .i64 q.blocks]:=rfl
  simp only [hcq] at htk ⊢
  (try simp -implicitDefEqProofs (disch:=first|exact dd|fail)[Try.f107,hlen,htk]);(repeat'((with_reducible first|(refine Br.out ?_ ?_<;>intro h<;>(try(have h0:=h;simp only[bH]at h)))|fail)<;>(try simp -implicitDefEqProofs (disch:=first|exact dd|fail)[Try.f107,hlen,htk])))
theorem zero_row:∀ n:Nat,List.replicate n [AV.int .i64 0, .int .i64 0, .int .i64 0, .int .i64 0, .int .i64 0, .int .i64 0, .int .i64 0, .row 1 [], .row 3 [], .row 3 []]=(List.replicate n zeroInode).map cInode:=by
 intro n
 rw [List.map_replicate]
 rfl
theorem spec_NewFS (n1:Option Bool) (q:List DQuota) (hq:q.length=4) (hq2:∀ x ∈ q,QuotaOK x):Snd Try.prog 106 [.frz 2 n1 (q.map cQuota)] (rFS (rootF 0 q 493)) [.unk]:=Runs.snd (M:=M) (c:=⟨1,[2,3,16,25],[],[]⟩) tok ks mixed Try.func106 (p := []) (by kernel_rfl) (by rfl) (by rfl) <| by
 have hdr:=(rootF_ok (t:=0) (q:=q) (mode:=493) (by omega) hq hq2 (show IsMode 493 from ⟨by decide,by decide⟩)).fs
 have hs:SmF (rootF 0 q 493):=SmF.of hdr
 have hin:(rootF 0 q 493).inodes.map cInode = [[.int .i64 2, .int .i64 493, .int .i64 0, .int .i64 0, .int .i64 1, .int .i64 0, .int .i64 0, .row 1 [], .row 3 [], .row 3 []]]++List.replicate 19 [.int .i64 0, .int .i64 0, .int .i64 0, .int .i64 0, .int .i64 0, .int .i64 0, .int .i64 0, .row 1 [], .row 3 [], .row 3 []]:=rfl
 have hq3:(rootF 0 q 493).quotas=q:=rfl
 have ht3:(rootF 0 q 493).tick=0:=rfl
 have hd3:(rootF 0 q 493).data=List.replicate 56 zero32:=rfl
 have hn3:=hdr.ni
 have hi:=tr_iff.2 hdr
 obtain ⟨R,hR⟩:∃ R,R=rootF 0 q 493:=⟨_,rfl⟩
 rw [←hR] at hs hin hq3 ht3 hd3 hn3 hi ⊢
 have ci:=fun a b=>spec_IsFS a b none R hs
 simp only [show isFS R=true from hi,fFS,hq3,ht3,hd3] at ci
 (try simp -implicitDefEqProofs (disch:=first|exact dd|fail)[Try.f106,hq]);(repeat'((with_reducible first|(refine Br.out ?_ ?_<;>intro h<;>(try(have h0:=h;simp only[bH]at h)))|fail)<;>(try simp -implicitDefEqProofs (disch:=first|exact dd|fail)[Try.f106,hq])))
 refine AL_up (fun (j:Nat)=>56 - j) (fun (j:Nat) => []) (fun (j:Nat)=>(390, .row 10 (R.inodes.map cInode) []) :: if j=0 then [] else [(384, .box [.int .i64 0, .ref 388 none 2 0 4 (some false), .ref 390 none 10 0 20 (some false), .ref 392 none 1 0 j none]),(392, .row 1 (List.replicate j [AV.str zero32]) [])]) (fun j=>j≤56) 0 (by rw [hin];rfl) (by omega) ?_
 intro j n2 hj ih
 generalize hGi:R.inodes.map cInode=G at *
 rcases Nat.lt_or_ge j 56 with hlt | hge
 ·have hjj:=ih (j + 1) (by omega) (by omega)
  rw [if_neg (by omega),List.replicate_succ'] at hjj
  have hl4:(j:Int) < 56:=by omega
  rcases j with _ | j
  ·(try simp -implicitDefEqProofs (disch:=first|exact dd|fail)[Try.f106]);(repeat'((with_reducible first|(refine Br.out ?_ ?_<;>intro h<;>(try(have h0:=h;simp only[bH]at h)))|refine AC_snd (spec_PadTo0) ?_|fail)<;>(try simp -implicitDefEqProofs (disch:=first|exact dd|fail)[Try.f106])))
   all_goals first | exact hjj
  ·have hlen2:(List.replicate (j + 1) [AV.str zero32]).length=j + 1:=by simp
   generalize List.replicate (j + 1) [AV.str zero32]=D at *
   have hG:List.take (j + 1) D=D:=List.take_of_length_le (by omega)
   have h30:j + 1≤1073741823:=by omega
   have hl5:((j + 1:Nat):Int) < 56:=by omega
   simp only [Nat.add_eq_zero_iff,Nat.one_ne_zero,and_false,if_false]
   (try simp -implicitDefEqProofs (disch:=first|exact dd|fail)[Try.f106,hl4,hl5,hlen2,hG,h30]);(repeat'((with_reducible first|(refine Br.out ?_ ?_<;>intro h<;>(try(have h0:=h;simp only[bH]at h)))|refine AC_snd (spec_PadTo0) ?_|fail)<;>(try simp -implicitDefEqProofs (disch:=first|exact dd|fail)[Try.f106,hl4,hl5,hlen2,hG,h30])))
   all_goals first | exact hjj
 ·have h56:j=56:=by omega
  subst h56
  rw [if_neg (by omega)]
  have hdl:(List.replicate 56 [AV.str zero32]).length=56:=by simp
  have hgl:G.length=20:=by rw [hin];rfl
  have hdD:R.data.map cs=List.replicate 56 [AV.str zero32]:=by rw [hd3,List.map_replicate];rfl
  simp only [List.map_replicate,cs] at ci
  generalize List.replicate 56 [AV.str zero32]=D at *
  have htk:List.take 56 D=D:=List.take_of_length_le (by omega)
  have htg:List.take 20 G=G:=List.take_of_length_le (by omega)
  have htq:List.take 4 (q.map cQuota)=q.map cQuota:=List.take_of_length_le (by simp [hq])
  (try simp -implicitDefEqProofs (disch:=first|exact dd|fail)[Try.f106,hq,htk,htg,htq,hgl,hdl,hdD,hGi,hq3,ht3]);(repeat'((with_reducible first|(refine Br.out ?_ ?_<;>intro h<;>(try(have h0:=h;simp only[bH]at h)))|refine AC_snd (ci _ _) ?_|fail)<;>(try simp -implicitDefEqProofs (disch:=first|exact dd|fail)[Try.f106,hq,htk,htg,htq,hgl,hdl,hdD,hGi,hq3,ht3])))
end Go.Proofs.Ytfkkfhafijgdaaa
