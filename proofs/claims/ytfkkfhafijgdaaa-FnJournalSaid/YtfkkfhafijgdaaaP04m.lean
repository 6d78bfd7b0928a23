import Derived.Test.YtfkkfhafijgdaaaP04j
import Derived.Test.YtfkkfhafijgdaaaP04l
namespace Go.Proofs.Ytfkkfhafijgdaaa
open Go.Fw
set_option linter.unusedVariables false
set_option linter.unusedSimpArgs false
set_option maxHeartbeats 1000000
set_option maxRecDepth 8000
theorem impl_ReadSector (n1 n2:Option Bool) (d:DDisk) (i:Nat) (hd:isDisk d=true) (hi:i < d.secs.length):Snd Try.prog 45 [fDisk n1 n2 d, .int .i64 i] (.str (readD d i)) [.unk, .unk]:=Runs.snd (M:=M) (c:=⟨2,[2,4,18],[],[]⟩) tok ks mixed Try.func45 (p := []) (by kernel_rfl) (by rfl) (by rfl) <| by
 have h:=isDisk_iff.1 hd
 have cI:=impl_IsDisk n1 n2 d (by omega) (by omega)
 rw [hd] at cI
 have cR:=impl_read n1 n2 d i hi (by omega)
 have g1:¬ (d.secs.length:Int)≤i:=by omega
 have g2:¬ d.secs.length≤i:=by omega
 generalize readD d i=R at *
 (try simp -implicitDefEqProofs (disch:=first|exact dd|fail)[Try.f45,g1,g2]);(repeat'((with_reducible first|(refine Br.out ?_ ?_<;>intro h<;>(try(have h0:=h;simp only[bH]at h)))|refine AC_snd (cI) ?_|refine AC_snd (cR) ?_|fail)<;>(try simp -implicitDefEqProofs (disch:=first|exact dd|fail)[Try.f45,g1,g2])))
theorem impl_TxnSteps (n1:Option Bool) (q:Int) (l:List DWrite) (hq:0≤q∧q≤1000000000) (hl:TxnL l):Snd Try.prog 40 [.int .i64 q, .frz 2 n1 (l.map cWrite)] (.row 3 ((txnS q l).map cStep)) [.unk, .unk]:=Runs.snd (M:=M) (c:=⟨2,[4,5,6,7,18],[],[]⟩) tok ks mixed Try.func40 (p := []) (by kernel_rfl) (by rfl) (by rfl) <| by
 have h4:=hl.len
 have cJ:=impl_JournalWrites n1 l hl
 have cC:=impl_CommitSector n1 q l (by omega) (fun w hw=>by rw [hl.data w hw];exact Nat.le_refl _)
 have cl:=commit_len hq hl
 have hne:¬ commitS q l = []:=fun e=>by rw [e] at cl;cases cl
 have hjl:=jW_len (l:=l)
 have cW:=fun a=>impl_writeSteps a (jW l) (by omega)
 have cI:=impl_installSteps n1 l (by omega)
 obtain ⟨R,hR⟩:∃ R,R=(txnS q l).map cStep:=⟨_,rfl⟩
 rw [←hR]
 have e1:(txnS q l).map cStep=((jW l).map stepW).map cStep++([[.bool true, .int .i64 0, .str []],[.bool false, .int .i64 1, .str (commitS q l)],[.bool true, .int .i64 0, .str []]]++(l.map stepW++clearS).map cStep):=by
  unfold txnS
  rw [List.map_append,List.map_append]
  rfl
 rw [e1] at hR
 have hA:(((jW l).map stepW).map cStep).length=l.length + 1:=by simp [hjl]
 have hB:((l.map stepW++clearS).map cStep).length=l.length + 3:=by simp [clearS]
 have htj:=takeM (f:=cWrite) hjl
 have hnf:∀ te,needFlat te ((l.map stepW++clearS).map cStep):=fun te=>nf_cStep
 generalize ((jW l).map stepW).map cStep=A at *
 generalize (l.map stepW++clearS).map cStep=B at *
 generalize jW l=J at *
 generalize commitS q l=C at *
 have htA:List.take (l.length + 1) A=A:=List.take_of_length_le (by omega)
 have htB:List.take (l.length + 3) B=B:=List.take_of_length_le (by omega)
 have hAX:∀ x y z:List AV,List.take (l.length + 1 + 3) (A ++ [x,y,z])=A ++ [x,y,z]:=fun x y z=>List.take_of_length_le (by simp [hA])
 simp only [List.cons_append,List.nil_append] at hR
 have b1:l.length + 1 + 3 + (l.length + 3)≤1073741823:=by omega
 (try simp -implicitDefEqProofs (disch:=first|exact dd|fail)[Try.f40,hne,hjl,hA,hB,htj,htA,htB,hAX,hR,b1,hnf]);(repeat'((with_reducible first|(refine Br.out ?_ ?_<;>intro h<;>(try(have h0:=h;simp only[bH]at h)))|refine AC_snd (cJ) ?_|refine AC_snd (cC) ?_|refine AC_snd (cW _) ?_|refine AC_snd (cI) ?_|fail)<;>(try simp -implicitDefEqProofs (disch:=first|exact dd|fail)[Try.f40,hne,hjl,hA,hB,htj,htA,htB,hAX,hR,b1,hnf])))
theorem impl_CrashDisk1 (n1:Option Bool) (K:List Bool) (k:Nat) (hk:k≤1048576) (hK:K.length≤1048576):Snd Try.prog 103 [.int .i64 k, .fptr [.frz 1 n1 (K.map cb)]] (.bool (K.getD k false)) [.unk, .unk]:=Runs.snd (M:=M) (c:=⟨1,[1,3],[],[]⟩) tok ks mixed Try.func103 (p := []) (by kernel_rfl) (by rfl) (by rfl) <| by
 by_cases h:k < K.length
 ·have e:K.getD k false=K[k]:=by simp [h]
  rw [e]
  (try simp -implicitDefEqProofs (disch:=first|exact dd|fail)[Try.f103,h]);(repeat'((with_reducible first|(refine Br.out ?_ ?_<;>intro h<;>(try(have h0:=h;simp only[bH]at h)))|fail)<;>(try simp -implicitDefEqProofs (disch:=first|exact dd|fail)[Try.f103,h])))
 ·have e:K.getD k false=false:=by
   rw [List.getD_eq_getElem?_getD,List.getElem?_eq_none (by omega)]
   rfl
  rw [e]
  (try simp -implicitDefEqProofs (disch:=first|exact dd|fail)[Try.f103,h]);(repeat'((with_reducible first|(refine Br.out ?_ ?_<;>intro h<;>(try(have h0:=h;simp only[bH]at h)))|fail)<;>(try simp -implicitDefEqProofs (disch:=first|exact dd|fail)[Try.f103,h])))
theorem keptN_succ {ws:List DWrite} {K:List Bool} {i:Nat} (h:i < ws.length):keptN ws K (i + 1)=if K.getD i false=true then keptN ws K i ++ [ws[i]] else keptN ws K i:=by
 rw [keptN,show ws.getD i ⟨0,[]⟩=ws[i] by simp [h]]
theorem impl_keepC (n1:Option Bool) (d:DDisk) (K:List Bool) (hd:isDisk d=true) (hK:K.length≤1048576) :
  Snd Try.prog 102 [.wptr [.row 1 (d.secs.map cs), .row 2 (d.pend.map cWrite)], .fn 103 [.fptr [.frz 1 n1 (K.map cb)]]] (.tup []) [.wptr [.row 1 ((storeAll d.secs (keptN d.pend K d.pend.length)).map cs), .row 2 []], .unk]:=Runs.snd (M:=M) (c:=⟨2,[4,5,9,10,11,12,18],[],[(1,[0,1,9,10,11,12,18])]⟩) tok ks mixed Try.func102 (p := [0]) (by kernel_rfl) (by rfl) (by rfl) <| by
 have h1:=isDisk_secs hd
 have h2:=isDisk_pend hd
 have h3:=isDisk_iff.1 hd
 obtain ⟨R,hR⟩:∃ R,R=(storeAll d.secs (keptN d.pend K d.pend.length)).map cs:=⟨_,rfl⟩
 have hRl:R.length=d.secs.length:=by rw [hR,List.length_map,storeAll_len]
 rw [←hR]
 (try simp -implicitDefEqProofs (disch:=first|exact dd|fail)[Try.f102]);(repeat'((with_reducible first|(refine Br.out ?_ ?_<;>intro h<;>(try(have h0:=h;simp only[bH]at h)))|fail)<;>(try simp -implicitDefEqProofs (disch:=first|exact dd|fail)[Try.f102])))
 refine AL_up (fun (i:Nat)=>d.pend.length - i) (fun (i:Nat) => [(11, .int .i64 i)]) (fun (i:Nat) => [(2, .row 1 ((storeAll d.secs (keptN d.pend K i)).map cs) [])]) (fun i=>i≤d.pend.length) 0 (by simp [storeAll,keptN]) (by omega) ?_
 intro i n hi ih
 rcases Nat.lt_or_ge i d.pend.length with hlt | hge
 ·have h4:=h3.2.2.2 d.pend[i] (List.getElem_mem hlt)
  have hj:=ih (i + 1) (by omega) (by omega)
  rw [keptN_succ hlt] at hj
  have h6:=storeAll_len (secs:=d.secs) (ws:=keptN d.pend K i)
  have cF:=impl_CrashDisk1 n1 K i (by omega) hK
  have h7:(storeAll d.secs (keptN d.pend K i ++ [d.pend[i]])).map cs=((storeAll d.secs (keptN d.pend K i)).map cs).set d.pend[i].sec.toNat [.str d.pend[i].data]:=by
   rw [store_snoc,List.map_set]
   rfl
  generalize K.getD i false=b at *
  cases b with
  | true=>
   rw [if_pos rfl,h7] at hj
   generalize storeAll d.secs (keptN d.pend K i)=S at *
   have htk:=takeM (f:=cs) h6
   (try simp -implicitDefEqProofs (disch:=first|exact dd|fail)[Try.f102,hlt,h6,htk,cWrite]);(repeat'((with_reducible first|(refine Br.out ?_ ?_<;>intro h<;>(try(have h0:=h;simp only[bH]at h)))|refine AC_snd (cF) ?_|fail)<;>(try simp -implicitDefEqProofs (disch:=first|exact dd|fail)[Try.f102,hlt,h6,htk,cWrite])))
   all_goals first | exact hj
  | false=>
   rw [if_neg (by decide)] at hj
   generalize storeAll d.secs (keptN d.pend K i)=S at *
   have htk:=takeM (f:=cs) h6
   (try simp -implicitDefEqProofs (disch:=first|exact dd|fail)[Try.f102,hlt,h6,htk,cWrite]);(repeat'((with_reducible first|(refine Br.out ?_ ?_<;>intro h<;>(try(have h0:=h;simp only[bH]at h)))|refine AC_snd (cF) ?_|fail)<;>(try simp -implicitDefEqProofs (disch:=first|exact dd|fail)[Try.f102,hlt,h6,htk,cWrite])))
   all_goals first | exact hj
 ·have he:i=d.pend.length:=by omega
  rw [he,←hR]
  have htk:List.take d.secs.length R=R:=List.take_of_length_le (by omega)
  (try simp -implicitDefEqProofs (disch:=first|exact dd|fail)[Try.f102,hRl,htk]);(repeat'((with_reducible first|(refine Br.out ?_ ?_<;>intro h<;>(try(have h0:=h;simp only[bH]at h)))|fail)<;>(try simp -implicitDefEqProofs (disch:=first|exact dd|fail)[Try.f102,hRl,htk])))
theorem impl_CrashDisk (n1 n2 n3:Option Bool) (d:DDisk) (K:List Bool) (hd:isDisk d=true) (hK:K.length≤1048576):Snd Try.prog 42 [fDisk n1 n2 d, .frz 1 n3 (K.map cb)] (rDisk (crashD d K)) [.unk, .unk]:=Runs.snd (M:=M) (c:=⟨2,[2,3,4,5,9],[],[]⟩) tok ks mixed Try.func42 (p := []) (by kernel_rfl) (by rfl) (by rfl) <| by
 have h:=isDisk_iff.1 hd
 have cI:=impl_IsDisk n1 n2 d (by omega) (by omega)
 rw [hd] at cI
 have cD:=impl_copyDisk n1 n2 d (by omega) (by omega)
 have cK:=fun a=>impl_keepC a d K hd hK
 rw [crashD,if_pos hd]
 have hSl:=storeAll_len (secs:=d.secs) (ws:=keptN d.pend K d.pend.length)
 generalize storeAll d.secs (keptN d.pend K d.pend.length)=S at *
 have t1:=takeM (f:=cs) hSl
 have t2:=takeM (f:=cs) (rfl:d.secs.length=d.secs.length)
 have t3:=takeM (f:=cWrite) (rfl:d.pend.length=d.pend.length)
 simp only [rDisk,List.map_nil] at cD ⊢
 (try simp -implicitDefEqProofs (disch:=first|exact dd|fail)[Try.f42,t1,t2,t3,hSl]);(repeat'((with_reducible first|(refine Br.out ?_ ?_<;>intro h<;>(try(have h0:=h;simp only[bH]at h)))|refine AC_snd (cI) ?_|refine AC_snd (cD) ?_|refine AC_snd (cK _) ?_|fail)<;>(try simp -implicitDefEqProofs (disch:=first|exact dd|fail)[Try.f42,t1,t2,t3,hSl])))
def kpL (c:DCur):Nat→List Bool × DCur
 | 0=>([],c)
 | k + 1=>((kpL c k).1 ++ [(onceC (kpL c k).2 2).1],(onceC (kpL c k).2 2).2)
theorem kpL_succ {c:DCur} {k:Nat}:kpL c (k + 1)=((kpL c k).1 ++ [(onceC (kpL c k).2 2).1],(onceC (kpL c k).2 2).2):=rfl
theorem kpL_ok {c:DCur} (h:CurOK c):∀ k,CurOK (kpL c k).2∧(kpL c k).2.code=c.code∧(kpL c k).1.length=k
 | 0=>⟨h,rfl,rfl⟩
 | k + 1=>by
  obtain ⟨h1,h2,h3⟩:=kpL_ok h k
  rw [kpL_succ]
  exact ⟨onceC_ok 2 h1,by simp only [onceC_code,h2],by simp [h3]⟩
theorem spec_l03Keep (nl:Option Bool) (c:DCur) (hc:CurOK c) (hl:c.code.length≤1048576):Snd Try.prog 105 [wCur nl c] (.row 1 ((kpL (belowC c 5).2 (belowC c 5).1.toNat).1.map cb)) [wCur nl (kpL (belowC c 5).2 (belowC c 5).1.toNat).2]:=Runs.snd (M:=M) (c:=⟨1,[2,3,4,9],[],[]⟩) tok ks mixed Try.func105 (p := [0]) (by kernel_rfl) (by rfl) (by rfl) <| by
 have c1:=spec_l01Below nl c 5 hc hl
 have hb:=belowC_val c (n:=5) (by decide)
 have o1:=belowC_ok 5 hc
 have d1:=belowC_code c 5
 generalize belowC c 5=x at *
 obtain ⟨m,hm⟩:=Int.eq_ofNat_of_zero_le hb.1
 simp only [hm,Int.toNat_natCast] at *
 obtain ⟨Q,hQ⟩:∃ Q,Q=kpL x.2 m:=⟨_,rfl⟩
 rw [←hQ]
 have hz:kpL x.2 0=([],x.2):=rfl
 (try simp -implicitDefEqProofs (disch:=first|exact dd|fail)[Try.f105]);(repeat'((with_reducible first|(refine Br.out ?_ ?_<;>intro h<;>(try(have h0:=h;simp only[bH]at h)))|refine AC_snd (c1) ?_|fail)<;>(try simp -implicitDefEqProofs (disch:=first|exact dd|fail)[Try.f105])))
 refine AL_up (fun (j:Nat)=>m - j) (fun (j:Nat) => [(3, .ref 384 none 1 0 j (some false)),(4, .int .i64 ((m:Int) - j))]) (fun (j:Nat) => [(0, .box [.frz 1 nl ((kpL x.2 j).2.code.map cu), .int .i64 (kpL x.2 j).2.i, .int .i64 (kpL x.2 j).2.h]),(384, .row 1 ((kpL x.2 j).1.map cb) [])]) (fun j=>j≤m) 0 (by rw [hz];simp) (Nat.zero_le _) ?_
 intro j n1 hj ih
 obtain ⟨q1,q2,q3⟩:=kpL_ok o1 j
 have htk:=takeM (f:=cb) q3
 rcases Nat.lt_or_ge j m with hlt | hge
 ·have hjj:=ih (j + 1) (by omega) (by omega)
  rw [kpL_succ] at hjj
  generalize kpL x.2 j=X at *
  have c2:=spec_l01Once nl X.2 2 q1 (by rw [q2,d1];exact hl)
  generalize onceC X.2 2=y at *
  simp only [List.map_append,List.map_cons,List.map_nil,cb] at hjj
  have hgt:(0:Int) < (m:Int) - j:=by omega
  have e1:(m:Int) - ((j + 1:Nat):Int)=(m:Int) - j - 1:=by omega
  rw [e1] at hjj
  have h30:j≤1073741823:=by omega
  (try simp -implicitDefEqProofs (disch:=first|exact dd|fail)[Try.f105,hgt,q3,htk,h30]);(repeat'((with_reducible first|(refine Br.out ?_ ?_<;>intro h<;>(try(have h0:=h;simp only[bH]at h)))|refine AC_snd (c2) ?_|fail)<;>(try simp -implicitDefEqProofs (disch:=first|exact dd|fail)[Try.f105,hgt,q3,htk,h30])))
  all_goals first | exact hjj
 ·have h1:j=m:=by omega
  rw [h1] at q3 htk ⊢
  rw [←hQ] at q3 htk ⊢
  have hgt:¬ (0:Int) < (m:Int) - m:=by omega
  (try simp -implicitDefEqProofs (disch:=first|exact dd|fail)[Try.f105,hgt,q3,htk]);(repeat'((with_reducible first|(refine Br.out ?_ ?_<;>intro h<;>(try(have h0:=h;simp only[bH]at h)))|fail)<;>(try simp -implicitDefEqProofs (disch:=first|exact dd|fail)[Try.f105,hgt,q3,htk])))
def kpC (code:Str) (n:Nat):List Bool:=(kpL (belowC (curN (newC code) n) 5).2 (belowC (curN (newC code) n) 5).1.toNat).1
theorem kpC_len (code:Str) (n:Nat):(kpC code n).length≤5:=by
 have h:=(kpL_ok (belowC_ok 5 (curN_ok (newC_ok code) n).1) (belowC (curN (newC code) n) 5).1.toNat).2.2
 have hb:=belowC_val (curN (newC code) n) (n:=5) (by decide)
 unfold kpC
 omega
theorem spec_MakeKeep (nl:Option Bool) (code:Str) (n:Nat) (hn:n≤1048576) (hl:code.length≤1048576):Snd Try.prog 44 [.frz 1 nl (code.map cu), .int .i64 n] (.row 1 ((kpC code n).map cb)) [.unk, .unk]:=Runs.snd (M:=M) (c:=⟨2,[4],[],[]⟩) tok ks mixed Try.func44 (p := []) (by kernel_rfl) (by rfl) (by rfl) <| by
 have c1:=spec_l25New nl code n hn hl
 obtain ⟨o1,e1⟩:=curN_ok (newC_ok code) n
 have e2:(newC code).code=code:=rfl
 unfold kpC
 generalize newC code=z at *
 generalize curN z n=c at *
 have c2:=spec_l03Keep nl c o1 (by rw [e1,e2];exact hl)
 generalize kpL (belowC c 5).2 (belowC c 5).1.toNat=R at *
 have t1:=takeM (f:=cb) (rfl:R.1.length=R.1.length)
 (try simp -implicitDefEqProofs (disch:=first|exact dd|fail)[Try.f44,t1]);(repeat'((with_reducible first|(refine Br.out ?_ ?_<;>intro h<;>(try(have h0:=h;simp only[bH]at h)))|refine AC_snd (c1) ?_|refine AC_snd (c2) ?_|fail)<;>(try simp -implicitDefEqProofs (disch:=first|exact dd|fail)[Try.f44,t1])))
end Go.Proofs.Ytfkkfhafijgdaaa
