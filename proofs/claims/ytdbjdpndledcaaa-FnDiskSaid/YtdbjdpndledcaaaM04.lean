/- Plain models: the journal. -/
import Derived.Test.YtdbjdpndledcaaaMA
namespace Go.Fw
set_option linter.unusedVariables false
def lastW:List DWrite→Int→Option Str
 | [],_=>none
 | w :: l,i=>match lastW l i with
  | some s=>some s
  | none=>if w.sec=i then some w.data else none
theorem lastW_drop {l:List DWrite} {i:Int} {k:Nat} (h:k < l.length) (hn:lastW (l.drop (k + 1)) i=none):lastW (l.drop k) i=if l[k].sec=i then some l[k].data else none:=by
 rw [List.drop_eq_getElem_cons h,lastW,hn]
theorem lastW_hit {l:List DWrite} {i:Int} {s:Str}:∀ {k:Nat},lastW (l.drop k) i=some s→lastW l i=some s
 | 0,h=>by simpa using h
 | k + 1,h=>by
  refine lastW_hit (k:=k) ?_
  by_cases hk:k < l.length
  ·rw [List.drop_eq_getElem_cons hk,lastW,h]
  ·rw [List.drop_eq_nil_of_le (by omega)] at h
   cases h
theorem lastW_mem {i:Int} {s:Str}:∀ {l:List DWrite},lastW l i=some s→∃ w ∈ l,w.data=s
 | w :: l,h=>by
  rw [lastW] at h
  cases hl:lastW l i with
  | some t=>
   rw [hl] at h
   obtain ⟨v,hv,e⟩:=lastW_mem hl
   exact ⟨v,List.mem_cons_of_mem _ hv,by rw [e];injection h⟩
  | none=>
   rw [hl] at h
   simp only at h
   split at h
   ·exact ⟨w,List.mem_cons_self ..,by injection h⟩
   ·cases h
def readD (d:DDisk) (i:Nat):Str:=(lastW d.pend i).getD (d.secs.getD i [])
theorem readD_len {d:DDisk} {i:Nat} (hd:isDisk d=true) (hi:i < d.secs.length):(readD d i).length=32:=by
 obtain ⟨-,-,h3,h4⟩:=isDisk_iff.1 hd
 unfold readD
 cases hl:lastW d.pend i with
 | some s=>
  obtain ⟨w,hw,rfl⟩:=lastW_mem hl
  exact (h4 w hw).2.2
 | none=>
  rw [Option.getD_none,List.getD_eq_getElem?_getD,List.getElem?_eq_getElem hi,Option.getD_some]
  exact h3 _ (List.getElem_mem hi)
def sumStep (p:Int × Int) (b:UInt8):Int × Int:=((p.1 + b.toNat) % 65521,(p.2 + (p.1 + b.toNat) % 65521) % 65521)
def sums (s:Str):Int × Int:=s.foldl sumStep (1,0)
def checkSum (s:Str):Int:=(sums s).2 * 65536 + (sums s).1
theorem sums_take {s:Str} {i:Nat} (h:i < s.length):sums (s.take (i + 1))=sumStep (sums (s.take i)) s[i]:=by
 unfold sums
 rw [List.take_succ_eq_append_getElem h,List.foldl_append]
 rfl
theorem sums_bound:∀ (s:Str),(0≤(sums s).1∧(sums s).1 < 65521)∧0≤(sums s).2∧(sums s).2 < 65521:=by
 have key:∀ (s:Str) (p:Int × Int),(0≤p.1∧p.1 < 65521)∧0≤p.2∧p.2 < 65521→(0≤(s.foldl sumStep p).1∧(s.foldl sumStep p).1 < 65521)∧0≤(s.foldl sumStep p).2∧(s.foldl sumStep p).2 < 65521:=by
  intro s
  induction s with
  | nil=>intro p h;exact h
  | cons b s ih=>
   intro p h
   refine ih _ ?_
   simp only [sumStep]
   omega
 exact fun s=>key s (1,0) (by omega)
theorem checkSum_bound (s:Str):0≤checkSum s∧checkSum s < 4294967296:=by
 have h:=sums_bound s
 unfold checkSum
 omega
def listedB (l:List DWrite):Bool:=l.all (fun w=>decide (0≤w.sec) && decide (w.sec < 400)) && decide (1≤l.length) && decide (l.length≤64)
def commitT (l:List DWrite):Str:=l.flatMap fun w=>putN w.sec 2++w.data
theorem commitT_take {l:List DWrite} {i:Nat} (h:i < l.length):commitT (l.take (i + 1))=commitT (l.take i)++(putN l[i].sec 2++l[i].data):=by
 unfold commitT
 rw [List.take_succ_eq_append_getElem h,List.flatMap_append]
 simp
theorem commitT_len {l:List DWrite} {n:Nat} (h:∀ w ∈ l,w.data.length≤n):(commitT l).length≤l.length * (n + 2):=by
 induction l with
 | nil=>simp [commitT]
 | cons w l ih=>
  have h1:=ih fun v hv=>h v (List.mem_cons_of_mem _ hv)
  have h2:=h w (List.mem_cons_self ..)
  have h3:=putN_len w.sec 2
  simp only [commitT,List.flatMap_cons,List.length_append,List.length_cons,Nat.add_mul] at *
  omega
def commitS (q:Int) (l:List DWrite):Str:=
 if (0≤q∧q≤1000000000)∧listedB l=true then padTo ([74,82,78,76]++putN q 4++putN l.length 2++putN (checkSum (commitT l)) 4) 32 else []
def txn1 (n:Nat) (l:List DWrite) (i:Nat):Bool:=match l[i]? with
 | some w=>decide (0≤w.sec) && decide (w.sec < n) && !(decide (1≤w.sec) && decide (w.sec < 70)) && decide (w.data.length=32) && (decide (i=0) || (match l[i - 1]? with | some v=>decide (v.sec < w.sec) | none=>true))
 | none=>true
def isTxn (d:DDisk) (l:List DWrite):Bool:=isDisk d && decide (70≤d.secs.length) && decide (1≤l.length) && decide (l.length≤64) && (List.range l.length).all (txn1 d.secs.length l)
theorem txn_no {d:DDisk} {l:List DWrite} {i:Nat} (h:i < l.length) (hx:txn1 d.secs.length l i=false):isTxn d l=false:=by
 have:(List.range l.length).all (txn1 d.secs.length l)=false:=List.all_eq_false.2 ⟨i,List.mem_range.2 h,by rw [hx];decide⟩
 unfold isTxn
 rw [this,Bool.and_false]
theorem txn_all {d:DDisk} {l:List DWrite} (h:∀ i,i < l.length→txn1 d.secs.length l i=true):isTxn d l=(isDisk d && decide (70≤d.secs.length) && decide (1≤l.length) && decide (l.length≤64)):=by
 have:(List.range l.length).all (txn1 d.secs.length l)=true:=List.all_eq_true.2 fun i hi=>h i (List.mem_range.1 hi)
 unfold isTxn
 rw [this,Bool.and_true]
def jAt (d:DDisk) (i:Nat):DWrite:=⟨(getN (readD d (2 + i / 16)) (2 * (i % 16:Nat)) 2).1,readD d (6 + i)⟩
def jList (d:DDisk) (n:Nat):List DWrite:=(List.range n).map (jAt d)
theorem jList_succ {d:DDisk} {n:Nat}:jList d (n + 1)=jList d n ++ [jAt d n]:=by simp [jList,List.range_succ]
theorem jList_len {d:DDisk} {n:Nat}:(jList d n).length=n:=by simp [jList]
def jSeq (d:DDisk):Int:=(getN (readD d 1) 4 4).1
def jNum (d:DDisk):Int:=(getN (readD d 1) 8 2).1
def readJ (d:DDisk):Option (Int × List DWrite):=
 if isDisk d=true∧70≤d.secs.length∧(1≤jNum d∧jNum d≤64)∧isTxn d (jList d (jNum d).toNat)=true∧commitS (jSeq d) (jList d (jNum d).toNat)=readD d 1 then some (jSeq d,jList d (jNum d).toNat) else none
def stepW (w:DWrite):DStep:=⟨false,w⟩
def flushS:DStep:=⟨true,⟨0,[]⟩⟩
def clearS:List DStep := [flushS,⟨false,⟨1,List.replicate 32 0⟩⟩,flushS]
def recSteps (d:DDisk):List DStep:=match readJ d with
 | some (_,l)=>l.map stepW++clearS
 | none => []
def recovD (d:DDisk):DDisk:=runSt d (recSteps d) (recSteps d).length
end Go.Fw
