import Derived.Test.YtfkkfhafijgdaaaP01b
import Derived.Test.YtfkkfhafijgdaaaP04h
import Derived.Test.YtfkkfhafijgdaaaPZ
import Derived.Test.YtfkkfhafijgdaaaM07
namespace Go.Proofs.Ytfkkfhafijgdaaa
open Go.Fw
set_option linter.unusedVariables false
set_option linter.unusedSimpArgs false
set_option maxHeartbeats 1000000
set_option maxRecDepth 8000
theorem nChunks_lt2 {s:Str} {n j:Nat} (h:1≤n):j < nChunks s n↔j * n < s.length:=by
 have h1:j + 1≤nChunks s n↔(j + 1) * n≤s.length + (n - 1):=Nat.le_div_iff_mul_le (by omega)
 rw [Nat.succ_mul] at h1
 omega
set_option maxHeartbeats 4000000 in
set_option maxRecDepth 8000 in
theorem impl_CutAll (s:Str) (n:Nat) (h1:1≤n) (h2:n≤1000) (hs:s.length≤1048576):Snd Try.prog 93 [.str s, .int .i64 n] (.row 1 ((cutN s n (nChunks s n)).map cs)) [.unk, .unk]:=Runs.snd (M:=M) (c:=⟨2,[4,5,6,12,16],[],[(1,[0,1,4,5,12,16])]⟩) tok ks mixed Try.func93 (p := []) (by kernel_rfl) (by rfl) (by rfl) <| by
 have g1:¬ (n:Int) < 1:=by omega
 have g2:¬ (1000:Int) < n:=by omega
 have hnc:nChunks s n≤s.length:=by
  unfold nChunks
  rw [Nat.div_le_iff_le_mul (by omega)]
  have:=Nat.mul_le_mul_right s.length h1
  rw [Nat.mul_comm n] at this
  omega
 obtain ⟨R,hR⟩:∃ R,R=nChunks s n:=⟨_,rfl⟩
 rw [←hR]
 (try simp -implicitDefEqProofs (disch:=first|exact dd|fail)[Try.f93,g1,g2]);(repeat'((with_reducible first|(refine Br.out ?_ ?_<;>intro h<;>(try(have h0:=h;simp only[bH]at h)))|fail)<;>(try simp -implicitDefEqProofs (disch:=first|exact dd|fail)[Try.f93,g1,g2])))
 refine AL_up (fun j=>R - j) (fun j => [(0, .str (s.drop (j * n))),(5, .ref 640 none 1 0 j (some false))]) (fun j => [(640, .row 1 ((cutN s n j).map cs) [])]) (fun j=>j≤R) 0 (by simp [cutN]) (Nat.zero_le _) ?_
 intro j m hj ih
 rcases Nat.lt_or_ge j R with hlt | hge
 ·have hlt2:=(nChunks_lt2 h1).1 (hR ▸ hlt)
  have hjj:=ih (j + 1) hlt (by omega)
  rw [cutN_succ,Nat.succ_mul,←List.drop_drop,chunk] at hjj
  have hl:=cutN_len (s:=s) (n:=n) (k:=j)
  have hSl:(s.drop (j * n)).length=s.length - j * n:=List.length_drop
  generalize cutN s n j=C at *
  generalize s.drop (j * n)=S at *
  have ht:=takeM (f:=cs) hl
  simp only [List.map_append,List.map_cons,List.map_nil,cs] at hjj
  by_cases hk:S.length < n
  ·have e1:S.take n=S:=List.take_of_length_le (by omega)
   have e2:S.drop n = []:=List.drop_of_length_le (by omega)
   rw [e1,e2] at hjj
   (try simp -implicitDefEqProofs (disch:=first|exact dd|fail)[Try.f93,hk,hl,ht]);(repeat'((with_reducible first|(refine Br.out ?_ ?_<;>intro h<;>(try(have h0:=h;simp only[bH]at h)))|fail)<;>(try simp -implicitDefEqProofs (disch:=first|exact dd|fail)[Try.f93,hk,hl,ht])))
   all_goals first | exact hjj
  ·have e3:(S.drop n).take (S.length - n)=S.drop n:=List.take_of_length_le (by simp)
   (try simp -implicitDefEqProofs (disch:=first|exact dd|fail)[Try.f93,hk,hl,ht,e3]);(repeat'((with_reducible first|(refine Br.out ?_ ?_<;>intro h<;>(try(have h0:=h;simp only[bH]at h)))|fail)<;>(try simp -implicitDefEqProofs (disch:=first|exact dd|fail)[Try.f93,hk,hl,ht,e3])))
   all_goals first | exact hjj
 ·obtain rfl:R=j:=by omega
  have hn2:¬ R * n < s.length:=fun h=>by have:=(nChunks_lt2 h1).2 h;omega
  have e:s.drop (R * n) = []:=List.drop_of_length_le (by omega)
  have hl:=cutN_len (s:=s) (n:=n) (k:=R)
  have ht:=takeM (f:=cs) hl
  rw [e]
  (try simp -implicitDefEqProofs (disch:=first|exact dd|fail)[Try.f93,hl,ht]);(repeat'((with_reducible first|(refine Br.out ?_ ?_<;>intro h<;>(try(have h0:=h;simp only[bH]at h)))|fail)<;>(try simp -implicitDefEqProofs (disch:=first|exact dd|fail)[Try.f93,hl,ht])))
set_option maxHeartbeats 4000000
set_option maxRecDepth 8000
theorem payL_succ {l:List DWrite} {i:Nat}:payL l (i + 1)=payL l i ++ [payAt l i]:=by simp [payL,List.range_succ]
theorem payL_len {l:List DWrite} {i:Nat}:(payL l i).length=i:=by simp [payL]
theorem impl_JournalWrites (n1:Option Bool) (l:List DWrite) (hl:TxnL l):Snd Try.prog 36 [.frz 2 n1 (l.map cWrite)] (.row 2 ((jW l).map cWrite)) [.unk]:=Runs.snd (M:=M) (c:=⟨1,[2,3,4,5,6,7,8,9,12,14,15,16,17,24,41,42,43,44],[],[(1,[0,2,3,4,7,8,9,12,14,15,16,17,24,41,42,43,44]),(3,[0,2,3,4,5,6,7,12,14,15,16,17,24,41,42,43,44])]⟩) tok ks mixed Try.func36 (p := []) (by kernel_rfl) (by rfl) (by rfl) <| by
 have h4:=hl.len
 have cL:=impl_listed n1 l (by omega)
 rw [hl.listed] at cL
 obtain ⟨R,hR⟩:∃ R,R=(jW l).map cWrite:=⟨_,rfl⟩
 rw [←hR]
 have hnl:(numsT l).length=2 * l.length:=numsT_len fun w hw=>(hl.num2 w hw).1
 have hnlt:∀ i,(numsT (l.take i)).length≤8:=fun i=>by
  rw [numsT_len fun w hw=>(hl.num2 w (List.mem_of_mem_take hw)).1,List.length_take]
  omega
 (try simp -implicitDefEqProofs (disch:=first|exact dd|fail)[Try.f36]);(repeat'((with_reducible first|(refine Br.out ?_ ?_<;>intro h<;>(try(have h0:=h;simp only[bH]at h)))|refine AC_snd (cL) ?_|fail)<;>(try simp -implicitDefEqProofs (disch:=first|exact dd|fail)[Try.f36])))
 refine AL_fors (σ:=Unit) 16 l.length (fun i _ => [(3, .str (numsT (l.take i))),(4, .ref 512 none 2 0 i (some false))]) (fun i _ => [(512, .row 2 ((payL l i).map cWrite) [])]) (fun _ _=>True) () (by simp [numsT,payL]) trivial (fun i _ n hlt _ ih => ?_) (fun _ n _ => ?_)
 ·have hj:=ih () trivial
  rw [numsT_take hlt,payL_succ] at hj
  have hd:=hl.data _ (List.getElem_mem hlt)
  have hp:=hl.num2 _ (List.getElem_mem hlt)
  have hpa:payAt l i=⟨6 + (i:Int),l[i].data⟩:=by unfold payAt;simp [hlt]
  rw [hpa] at hj
  have cS:=impl_PutNumber l[i].sec 2 (by decide) (by decide)
  simp only [show ((2:Nat):Int)=2 from rfl] at cS
  have hn8:=hnlt i
  have hpl:=payL_len (l:=l) (i:=i)
  have htk:=takeM (f:=cWrite) hpl
  generalize payL l i=P at *
  generalize numsT (l.take i)=X at *
  have b1:X.length + (putN l[i].sec 2).length≤1073741824:=by omega
  have w6:IntKind.i64.wrap (6 + (i:Int))=6 + i:=wrap64_in (by omega) (by omega)
  have h30:i≤1073741823:=by omega
  simp only [List.map_append,List.map_cons,List.map_nil,cWrite] at hj
  (try simp -implicitDefEqProofs (disch:=first|exact dd|fail)[Try.f36,hlt,hd,b1,w6,hpl,htk,h30,cWrite]);(repeat'((with_reducible first|(refine Br.out ?_ ?_<;>intro h<;>(try(have h0:=h;simp only[bH]at h)))|refine AC_snd (cS) ?_|fail)<;>(try simp -implicitDefEqProofs (disch:=first|exact dd|fail)[Try.f36,hlt,hd,b1,w6,hpl,htk,h30,cWrite])))
  all_goals first | exact hj
 ·rw [List.take_length]
  have hns:nChunks (numsT l) 32=1:=by unfold nChunks;rw [hnl];omega
  have hcN:cutN (numsT l) 32 1 = [numsT l]:=by simp [cutN,chunk,List.range_succ];exact List.take_of_length_le (by omega)
  have cC:=impl_CutAll (numsT l) 32 (by decide) (by decide) (by omega)
  rw [hns,hcN] at cC
  simp only [List.map_cons,List.map_nil,cs,show ((32:Nat):Int)=32 from rfl] at cC
  have cP:=impl_PadTo (numsT l) 32 (by decide) (by omega)
  simp only [show ((32:Nat):Int)=32 from rfl] at cP
  have hR2:R = [.int .i64 2, .str (padTo (numsT l) 32)] :: (payL l l.length).map cWrite:=by rw [hR];rfl
  have hpl:=payL_len (l:=l) (i:=l.length)
  have htk:=takeM (f:=cWrite) hpl
  generalize payL l l.length=P at *
  generalize padTo (numsT l) 32=W at *
  generalize numsT l=X at *
  (try simp -implicitDefEqProofs (disch:=first|exact dd|fail)[Try.f36]);(repeat'((with_reducible first|(refine Br.out ?_ ?_<;>intro h<;>(try(have h0:=h;simp only[bH]at h)))|refine AC_snd (cC) ?_|fail)<;>(try simp -implicitDefEqProofs (disch:=first|exact dd|fail)[Try.f36])))
  refine AL_up (fun (t:Nat)=>1 - t) (fun (t:Nat) => [(43, .int .i64 t),(7, .ref 896 none 2 0 t (some false))]) (fun (t:Nat) => [(896, .row 2 (if t=0 then [] else [[.int .i64 2, .str W]]) [])]) (fun t=>t≤1) 0 (by simp) (by omega) ?_
  intro t n8 ht jh
  rcases Nat.eq_zero_or_pos t with ht0 | ht0
  ·subst ht0
   have hjj:=jh 1 (by omega) (by omega)
   simp only [Nat.one_ne_zero,if_false] at hjj
   (try simp -implicitDefEqProofs (disch:=first|exact dd|fail)[Try.f36]);(repeat'((with_reducible first|(refine Br.out ?_ ?_<;>intro h<;>(try(have h0:=h;simp only[bH]at h)))|refine AC_snd (cP) ?_|fail)<;>(try simp -implicitDefEqProofs (disch:=first|exact dd|fail)[Try.f36])))
   all_goals first | exact hjj
  ·have ht1:t=1:=by omega
   subst ht1
   simp only [Nat.one_ne_zero,if_false]
   have h30:1 + l.length≤1073741823:=by omega
   (try simp -implicitDefEqProofs (disch:=first|exact dd|fail)[Try.f36,hpl,htk,h30,hR2]);(repeat'((with_reducible first|(refine Br.out ?_ ?_<;>intro h<;>(try(have h0:=h;simp only[bH]at h)))|fail)<;>(try simp -implicitDefEqProofs (disch:=first|exact dd|fail)[Try.f36,hpl,htk,h30,hR2])))
def secC (c:DCur):Str × DCur:=(padTo (drawS c 3).1 32,(drawS c 3).2)
theorem secC_ok {c:DCur} (h:CurOK c):(secC c).1.length=32∧CurOK (secC c).2∧(secC c).2.code=c.code:=by
 have h1:=drawS_len (c:=c) (n:=3) (by decide)
 have h2:=drawS_ok 3 h
 refine ⟨?_,h2.1,h2.2⟩
 unfold secC
 simp only [padTo_len]
 omega
theorem spec_l03Sector (nl:Option Bool) (c:DCur) (hc:CurOK c) (hl:c.code.length≤1048576):Snd Try.prog 142 [wCur nl c] (.str (secC c).1) [wCur nl (secC c).2]:=Runs.snd (M:=M) (c:=⟨1,[2],[],[]⟩) tok ks mixed Try.func142 (p := [0]) (by kernel_rfl) (by rfl) (by rfl) <| by
 have c1:=spec_l02Bytes nl c 3 (by decide) hc hl
 have h1:=drawS_len (c:=c) (n:=3) (by decide)
 have c2:=spec_PadTo (drawS c 3).1 32 (by decide) (by omega)
 unfold secC
 simp only [show ((3:Nat):Int)=3 from rfl,show ((32:Nat):Int)=32 from rfl] at c1 c2
 generalize drawS c 3=x at *
 generalize padTo x.1 32=W at *
 (try simp -implicitDefEqProofs (disch:=first|exact dd|fail)[Try.f142]);(repeat'((with_reducible first|(refine Br.out ?_ ?_<;>intro h<;>(try(have h0:=h;simp only[bH]at h)))|refine AC_snd (c1) ?_|refine AC_snd (c2) ?_|fail)<;>(try simp -implicitDefEqProofs (disch:=first|exact dd|fail)[Try.f142])))
theorem spec_NewDisk73:Snd Try.prog 141 [.int .i64 73] (rDisk ⟨List.replicate 73 zero32,[]⟩) [.unk]:=Runs.snd (M:=M) (c:=⟨1,[2,3,7,13],[],[]⟩) tok ks mixed Try.func141 (p := []) (by kernel_rfl) (by rfl) (by rfl) <| by
 obtain ⟨R,hR⟩:∃ R,R=List.replicate 73 [AV.str zero32]:=⟨_,rfl⟩
 have hRm:(List.replicate 73 zero32).map cs=R:=by rw [hR,List.map_replicate];rfl
 have hRl:R.length=73:=by rw [hR];simp
 simp only [rDisk,hRm]
 (try simp -implicitDefEqProofs (disch:=first|exact dd|fail)[Try.f141]);(repeat'((with_reducible first|(refine Br.out ?_ ?_<;>intro h<;>(try(have h0:=h;simp only[bH]at h)))|refine AC_snd (spec_l01In _ _ _) ?_|fail)<;>(try simp -implicitDefEqProofs (disch:=first|exact dd|fail)[Try.f141])))
 refine AL_up (fun (j:Nat)=>73 - j) (fun (j:Nat) => []) (fun (j:Nat)=>if j=0 then [] else [(384, .box [.ref 386 none 1 0 j none, .frz 2 (some true) []]),(386, .row 1 (List.replicate j [AV.str zero32]) [])]) (fun j=>j≤73) 0 (by simp) (by omega) ?_
 intro j n2 hj ih
 rcases Nat.lt_or_ge j 73 with hlt | hge
 ·have hjj:=ih (j + 1) (by omega) (by omega)
  rw [if_neg (by omega),List.replicate_succ'] at hjj
  have hl4:(j:Int) < 73:=by omega
  rcases j with _ | j
  ·(try simp -implicitDefEqProofs (disch:=first|exact dd|fail)[Try.f141]);(repeat'((with_reducible first|(refine Br.out ?_ ?_<;>intro h<;>(try(have h0:=h;simp only[bH]at h)))|refine AC_snd (spec_PadTo0) ?_|fail)<;>(try simp -implicitDefEqProofs (disch:=first|exact dd|fail)[Try.f141])))
   all_goals first | exact hjj
  ·have hlen2:(List.replicate (j + 1) [AV.str zero32]).length=j + 1:=by simp
   generalize List.replicate (j + 1) [AV.str zero32]=D at *
   have hG:List.take (j + 1) D=D:=List.take_of_length_le (by omega)
   have h30:j + 1≤1073741823:=by omega
   have hl5:((j + 1:Nat):Int) < 73:=by omega
   simp only [Nat.add_eq_zero_iff,Nat.one_ne_zero,and_false,if_false]
   (try simp -implicitDefEqProofs (disch:=first|exact dd|fail)[Try.f141,hl4,hl5,hlen2,hG,h30]);(repeat'((with_reducible first|(refine Br.out ?_ ?_<;>intro h<;>(try(have h0:=h;simp only[bH]at h)))|refine AC_snd (spec_PadTo0) ?_|fail)<;>(try simp -implicitDefEqProofs (disch:=first|exact dd|fail)[Try.f141,hl4,hl5,hlen2,hG,h30])))
   all_goals first | exact hjj
 ·have h73:j=73:=by omega
  subst h73
  rw [if_neg (by omega),←hR]
  have htk:List.take 73 R=R:=List.take_of_length_le (by omega)
  (try simp -implicitDefEqProofs (disch:=first|exact dd|fail)[Try.f141,hRl,htk]);(repeat'((with_reducible first|(refine Br.out ?_ ?_<;>intro h<;>(try(have h0:=h;simp only[bH]at h)))|fail)<;>(try simp -implicitDefEqProofs (disch:=first|exact dd|fail)[Try.f141,hRl,htk])))
def jdL (c:DCur):Nat→List Str × DCur
 | 0=>(List.replicate 73 zero32,c)
 | k + 1=>((jdL c k).1.set (70 + k) (secC (jdL c k).2).1,(secC (jdL c k).2).2)
theorem jdL_succ {c:DCur} {k:Nat}:jdL c (k + 1)=((jdL c k).1.set (70 + k) (secC (jdL c k).2).1,(secC (jdL c k).2).2):=rfl
theorem jdL_ok {c:DCur} (h:CurOK c):∀ k,CurOK (jdL c k).2∧(jdL c k).2.code=c.code∧(jdL c k).1.length=73∧(∀ s ∈ (jdL c k).1,s.length=32)∧gS (jdL c k).1 1=zero32
 | 0=>⟨h,rfl,by simp [jdL],fun s hs=>by
   unfold jdL at hs
   rw [List.eq_of_mem_replicate hs]
   rfl,rfl⟩
 | k + 1=>by
  obtain ⟨h1,h2,h3,h4,h5⟩:=jdL_ok h k
  obtain ⟨s1,s2,s3⟩:=secC_ok h1
  rw [jdL]
  refine ⟨s2,s3.trans h2,by simpa using h3,fun s hs => ?_,?_⟩
  ·rcases List.mem_or_eq_of_mem_set hs with h6 | h6
   ·exact h4 s h6
   ·rw [h6];exact s1
  ·unfold gS at h5 ⊢
   rw [List.getD_eq_getElem?_getD,List.getElem?_set_ne (by omega),←List.getD_eq_getElem?_getD]
   exact h5
theorem spec_l04Disk (nl:Option Bool) (c:DCur) (hc:CurOK c) (hl:c.code.length≤1048576):Snd Try.prog 89 [wCur nl c] (rDisk ⟨(jdL c 3).1,[]⟩) [wCur nl (jdL c 3).2]:=Runs.snd (M:=M) (c:=⟨1,[2,3,4,7],[],[]⟩) tok ks mixed Try.func89 (p := [0]) (by kernel_rfl) (by rfl) (by rfl) <| by
 obtain ⟨Q,hQ⟩:∃ Q,Q=jdL c 3:=⟨_,rfl⟩
 rw [←hQ]
 have cN:=spec_NewDisk73
 have hz1:(jdL c 0).1=List.replicate 73 zero32:=rfl
 have hz2:(jdL c 0).2=c:=rfl
 rw [←hz1] at cN
 have hlz:=(jdL_ok hc 0).2.2.1
 simp only [rDisk,List.map_nil] at cN ⊢
 (try simp -implicitDefEqProofs (disch:=first|exact dd|fail)[Try.f89,hlz]);(repeat'((with_reducible first|(refine Br.out ?_ ?_<;>intro h<;>(try(have h0:=h;simp only[bH]at h)))|refine AC_snd (cN) ?_|fail)<;>(try simp -implicitDefEqProofs (disch:=first|exact dd|fail)[Try.f89,hlz])))
 refine AL_up (fun (j:Nat)=>3 - j) (fun (j:Nat) => [(4, .int .i64 j)]) (fun (j:Nat) => [(0, .box [.frz 1 nl ((jdL c j).2.code.map cu), .int .i64 (jdL c j).2.i, .int .i64 (jdL c j).2.h]),(386, .row 1 ((jdL c j).1.map cs) [])]) (fun j=>j≤3) 0 (by rw [hz2];rfl) (by omega) ?_
 intro j n1 hj ih
 obtain ⟨q1,q2,q3,q4,q5⟩:=jdL_ok hc j
 have htk:=takeM (f:=cs) q3
 rcases Nat.lt_or_ge j 3 with hlt | hge
 ·have hjj:=ih (j + 1) (by omega) (by omega)
  rw [jdL_succ] at hjj
  have c2:=spec_l03Sector nl (jdL c j).2 q1 (by rw [q2];exact hl)
  generalize jdL c j=X at *
  generalize secC X.2=y at *
  simp only [List.map_set,cs] at hjj
  have hi3:(j:Int) < 3:=by omega
  have w1:IntKind.i64.wrap (70 + (j:Int))=70 + j:=wrap64_in (by omega) (by omega)
  have e1:(70 + (j:Int)).toNat=70 + j:=by omega
  have b1:70 + j < 73:=by omega
  have b2:¬ 70 + (j:Int) < 0:=by omega
  have b3:70 + (j:Int) < 73:=by omega
  (try simp -implicitDefEqProofs (disch:=first|exact dd|fail)[Try.f89,hi3,w1,e1,b1,b2,b3,q3,htk]);(repeat'((with_reducible first|(refine Br.out ?_ ?_<;>intro h<;>(try(have h0:=h;simp only[bH]at h)))|refine AC_snd (c2) ?_|fail)<;>(try simp -implicitDefEqProofs (disch:=first|exact dd|fail)[Try.f89,hi3,w1,e1,b1,b2,b3,q3,htk])))
  all_goals first | exact hjj
 ·have h3:j=3:=by omega
  rw [h3] at q3 htk ⊢
  rw [←hQ] at q3 htk ⊢
  (try simp -implicitDefEqProofs (disch:=first|exact dd|fail)[Try.f89,q3,htk]);(repeat'((with_reducible first|(refine Br.out ?_ ?_<;>intro h<;>(try(have h0:=h;simp only[bH]at h)))|fail)<;>(try simp -implicitDefEqProofs (disch:=first|exact dd|fail)[Try.f89,q3,htk])))
end Go.Proofs.Ytfkkfhafijgdaaa
