/- Plain law: the journal gives back what was written to it. -/
import Derived.Test.YtdbjdpndledcaaaM04
namespace Go.Fw
set_option linter.unusedVariables false
set_option linter.unusedSimpArgs false
set_option maxRecDepth 8000
theorem lowB_fold {n:Nat}:∀ (k:Nat) (a:Int),(lowB n k).foldl (fun x b=>x * 256 + (b.toNat:Int)) a=a * ((256 ^ k:Nat):Int) + ((n % 256 ^ k:Nat):Int)
 | 0,a=>by simp [lowB,Nat.mod_one]
 | k + 1,a=>by
  rw [lowB,List.foldl_cons,lowB_fold k,Nat.mod_pow_succ,Nat.pow_succ]
  have hb:(UInt8.ofNat (n / 256 ^ k)).toNat=n / 256 ^ k % 256:=by simp
  rw [hb]
  generalize n / 256 ^ k % 256=b
  generalize n % 256 ^ k=r
  generalize 256 ^ k=p
  simp only [Int.natCast_add,Int.natCast_mul,Int.add_mul]
  rw [Int.mul_assoc,Int.mul_comm (256:Int) p,Int.mul_comm (b:Int) p]
  simp only [show ((256:Nat):Int)=256 from rfl]
  omega
theorem putN_val {n:Int} {w:Nat} (h0:0≤n) (h1:n < ((256 ^ w:Nat):Int)):(putN n w).length=w∧getV (putN n w)=n:=by
 obtain ⟨k,rfl⟩:=Int.eq_ofNat_of_zero_le h0
 have hk:k < 256 ^ w:=by omega
 have e:putN (k:Int) w=lowB k w:=by
  unfold putN
  rw [if_pos ⟨h0,by simpa using h1⟩,Int.toNat_natCast]
 rw [e]
 refine ⟨lowB_len,?_⟩
 unfold getV
 rw [lowB_fold,Nat.mod_eq_of_lt hk]
 omega
theorem getN_mid {a b c:Str} {w:Nat} (hw:1≤w∧w≤6) (hb:b.length=w):getN (a++(b++c)) a.length w=(getV b,true):=by
 unfold getN
 rw [if_pos ⟨by omega,by omega,by simp only [List.length_append];omega⟩]
 simp only [Int.toNat_natCast]
 rw [List.drop_append_of_le_length (Nat.le_refl _),List.drop_length,List.nil_append,←hb,List.take_append_of_le_length (Nat.le_refl _),List.take_length]
structure TxnL (l:List DWrite):Prop where
 len:1≤l.length∧l.length≤4
 sec:∀ w ∈ l,w.sec=0∨w.sec=70∨w.sec=71∨w.sec=72
 data:∀ w ∈ l,w.data.length=32
 inc:∀ i,(h:i + 1 < l.length)→l[i].sec < l[i + 1].sec
theorem TxnL.listed {l:List DWrite} (h:TxnL l):listedB l=true:=by
 unfold listedB
 simp only [Bool.and_eq_true,decide_eq_true_eq,List.all_eq_true]
 refine ⟨⟨fun w hw => ?_,h.len.1⟩,by have:=h.len.2;omega⟩
 have:=h.sec w hw
 omega
theorem TxnL.txn {l:List DWrite} (h:TxnL l) {d:DDisk} (hd:isDisk d=true) (hn:d.secs.length=73):isTxn d l=true:=by
 rw [txn_all fun i hi => ?_]
 ·have h1:=h.len
  simp only [hd,hn,Bool.true_and,Bool.and_eq_true,decide_eq_true_eq]
  omega
 ·unfold txn1
  rw [List.getElem?_eq_getElem hi]
  have hs:=h.sec _ (List.getElem_mem hi)
  have hl:=h.data _ (List.getElem_mem hi)
  simp only [hl,hn,Bool.and_eq_true,Bool.or_eq_true,decide_eq_true_eq,Bool.not_eq_true',Bool.and_eq_false_iff,decide_eq_false_iff_not]
  refine ⟨⟨⟨⟨by omega,by omega⟩,by omega⟩,trivial⟩,?_⟩
  rcases i with _ | i
  ·exact .inl rfl
  ·right
   rw [show i + 1 - 1=i from rfl,List.getElem?_eq_getElem (show i < l.length by omega)]
   simp only [decide_eq_true_eq]
   exact h.inc i hi
def numsT (l:List DWrite):Str:=l.flatMap fun w=>putN w.sec 2
theorem numsT_len:∀ {l:List DWrite},(∀ w ∈ l,(putN w.sec 2).length=2)→(numsT l).length=2 * l.length
 | [],_=>rfl
 | w :: l,h=>by
  have h1:=numsT_len (l:=l) fun v hv=>h v (List.mem_cons_of_mem _ hv)
  have h2:=h w (List.mem_cons_self ..)
  unfold numsT at h1 ⊢
  rw [List.flatMap_cons,List.length_append,h1,h2,List.length_cons]
  omega
theorem numsT_take {l:List DWrite} {i:Nat} (h:i < l.length):numsT (l.take (i + 1))=numsT (l.take i)++putN l[i].sec 2:=by
 unfold numsT
 rw [List.take_succ_eq_append_getElem h,List.flatMap_append]
 simp
theorem numsT_split {l:List DWrite} {i:Nat} (h:i < l.length):numsT l=numsT (l.take i)++(putN l[i].sec 2++numsT (l.drop (i + 1))):=by
 unfold numsT
 conv=>lhs;rw [←List.take_append_drop i l,List.drop_eq_getElem_cons h]
 rw [List.flatMap_append,List.flatMap_cons]
theorem TxnL.num2 {l:List DWrite} (h:TxnL l):∀ w ∈ l,(putN w.sec 2).length=2∧getV (putN w.sec 2)=w.sec:=fun w hw=>by
 have h1:=h.sec w hw
 exact putN_val (by omega) (by show w.sec < 65536;omega)
theorem commit_eq {q:Int} {l:List DWrite} (hq:0≤q∧q≤1000000000) (h:TxnL l):commitS q l=padTo ([74,82,78,76]++putN q 4++putN l.length 2++putN (checkSum (commitT l)) 4) 32:=by
 rw [commitS,if_pos ⟨hq,h.listed⟩]
theorem commit_len {q:Int} {l:List DWrite} (hq:0≤q∧q≤1000000000) (h:TxnL l):(commitS q l).length=32:=by
 have h1:=putN_len q 4
 have h2:=putN_len l.length 2
 have h3:=putN_len (checkSum (commitT l)) 4
 rw [commit_eq hq h,padTo_len]
 simp only [List.length_append,List.length_cons,List.length_nil]
 omega
theorem commit_eq2 {q:Int} {l:List DWrite} (hq:0≤q∧q≤1000000000) (h:TxnL l):∃ J:Str,J.length=4∧commitS q l=padTo (J++putN q 4++putN l.length 2++putN (checkSum (commitT l)) 4) 32:=⟨[74,82,78,76],rfl,commit_eq hq h⟩
theorem commit_get {A B C D:Str} (hA:A.length=4) (hB:B.length=4) (hC:C.length=2):getN (padTo (A++B++C++D) 32) 4 4=(getV B,true)∧getN (padTo (A++B++C++D) 32) 8 2=(getV C,true):=by
 unfold padTo
 generalize List.replicate (32 - (A++B++C++D).length) (0:UInt8)=Z
 have h1:=getN_mid (a:=A) (b:=B) (c:=C++(D++Z)) (w:=4) (by decide) hB
 have h2:=getN_mid (a:=A++B) (b:=C) (c:=D++Z) (w:=2) (by decide) hC
 have h8:(A++B).length=8:=by rw [List.length_append,hA,hB]
 rw [hA] at h1
 rw [h8] at h2
 simp only [List.append_assoc] at h1 h2 ⊢
 exact ⟨h1,h2⟩
theorem readJ_of {e:DDisk} {q:Int} {l:List DWrite} (hd:isDisk e=true) (hn:e.secs.length=73) (hq:0≤q∧q≤1000000000) (h:TxnL l) (h1:readD e 1=commitS q l) (h2:readD e 2=padTo (numsT l) 32) (h6:∀ i,(hi:i < l.length)→readD e (6 + i)=l[i].data):readJ e=some (q,l):=by
 have hl:=h.len
 have p1:=putN_val (n:=q) (w:=4) hq.1 (by show q < 4294967296;omega)
 have p2:=putN_val (n:=(l.length:Int)) (w:=2) (by omega) (by show (l.length:Int) < 65536;omega)
 obtain ⟨J,hJ,hce⟩:=commit_eq2 hq h
 have hg:=commit_get (D:=putN (checkSum (commitT l)) 4) hJ p1.1 p2.1
 rw [←hce] at hg
 have hseq:jSeq e=q:=by
  unfold jSeq
  rw [h1,hg.1]
  exact p1.2
 have hnum:jNum e=l.length:=by
  unfold jNum
  rw [h1,hg.2]
  simp only
  rw [p2.2]
 have hlist:jList e l.length=l:=by
  apply List.ext_getElem
  ·rw [jList_len]
  ·intro i hi1 hi2
   have hm:=List.getElem_mem hi2
   have hp:=h.num2 _ hm
   have hi4:i < 4:=by omega
   have e0:(jList e l.length)[i]=jAt e i:=by simp [jList]
   rw [e0]
   unfold jAt
   rw [show 2 + i / 16=2 by omega,h2,show i % 16=i by omega,h6 i hi2]
   have hnl:=numsT_len (l:=l.take i) fun w hw=>(h.num2 w (List.mem_of_mem_take hw)).1
   rw [List.length_take,Nat.min_eq_left (by omega)] at hnl
   rw [padTo,numsT_split hi2,List.append_assoc,List.append_assoc]
   have:=getN_mid (a:=numsT (l.take i)) (b:=putN l[i].sec 2) (c:=numsT (l.drop (i + 1))++List.replicate (32 - (numsT (l.take i)++(putN l[i].sec 2++numsT (l.drop (i + 1)))).length) 0) (w:=2) (by decide) hp.1
   rw [hnl] at this
   have e2:(2:Int) * ((i:Nat):Int)=((2 * i:Nat):Int):=by omega
   rw [e2,show ((2:Nat):Int)=2 from rfl] at *
   rw [this]
   simp only
   rw [hp.2]
 unfold readJ
 rw [hnum,Int.toNat_natCast,hlist,hseq]
 rw [if_pos ⟨hd,by omega,⟨by omega,by omega⟩,h.txn hd hn,h1.symm⟩]
end Go.Fw
