/- Plain law: after a crash at any step of a transaction, recovery yields all of its writes or none. -/
import Derived.Test.YtdbjdpndledcaaaM05
namespace Go.Fw
set_option linter.unusedVariables false
set_option linter.unusedSimpArgs false
set_option maxRecDepth 8000
theorem lastW_snoc {w:DWrite} {i:Int}:∀ {l:List DWrite},lastW (l ++ [w]) i=if w.sec=i then some w.data else lastW l i
 | []=>rfl
 | v :: l=>by
  rw [List.cons_append,lastW,lastW_snoc,lastW]
  by_cases h:w.sec=i
  ·simp [h]
  ·simp [h]
theorem lastW_some {i:Int} {s:Str}:∀ {l:List DWrite},lastW l i=some s→∃ w ∈ l,w.sec=i∧w.data=s
 | w :: l,h=>by
  rw [lastW] at h
  cases hl:lastW l i with
  | some t=>
   rw [hl] at h
   obtain ⟨v,hv,e⟩:=lastW_some hl
   exact ⟨v,List.mem_cons_of_mem _ hv,e.1,by rw [e.2];injection h⟩
  | none=>
   rw [hl] at h
   simp only at h
   split at h
   ·exact ⟨w,List.mem_cons_self ..,by assumption,by injection h⟩
   ·cases h
theorem lastW_no {i:Int}:∀ {l:List DWrite},(∀ w ∈ l,w.sec≠i)→lastW l i=none
 | [],_=>rfl
 | w :: l,h=>by
  rw [lastW,lastW_no fun v hv=>h v (List.mem_cons_of_mem _ hv)]
  exact if_neg (h w (List.mem_cons_self ..))
theorem lastW_hits {i:Int} {w:DWrite}:∀ {l:List DWrite},w ∈ l→w.sec=i→(∀ v ∈ l,v.sec=i→v.data=w.data)→lastW l i=some w.data:=by
 intro l hw he hu
 cases h:lastW l i with
 | none=>
  exfalso
  have key:∀ l:List DWrite,w ∈ l→lastW l i≠none:=by
   intro l
   induction l with
   | nil=>intro h;cases h
   | cons v l ih=>
    intro hm hn
    rw [lastW] at hn
    cases hl:lastW l i with
    | some t=>rw [hl] at hn;cases hn
    | none=>
     rw [hl] at hn
     simp only at hn
     rcases List.mem_cons.1 hm with rfl | hm
     ·rw [if_pos he] at hn
      cases hn
     ·exact ih hm hl
  exact key l hw h
 | some s=>
  obtain ⟨v,hv,e1,e2⟩:=lastW_some h
  rw [←hu v hv e1,e2]
def gS (S:List Str) (i:Nat):Str:=S.getD i []
theorem store_get:∀ {ws:List DWrite} {S:List Str} {i:Nat},i < S.length→(∀ w ∈ ws,0≤w.sec)→gS (storeAll S ws) i=(lastW ws i).getD (gS S i)
 | [],S,i,_,_=>rfl
 | w :: ws,S,i,hi,hw=>by
  have e:storeAll S (w :: ws)=storeAll (S.set w.sec.toNat w.data) ws:=rfl
  rw [e,store_get (by rw [List.length_set];exact hi) fun v hv=>hw v (List.mem_cons_of_mem _ hv),lastW]
  cases lastW ws i with
  | some s=>rfl
  | none=>
   have h0:=hw w (List.mem_cons_self ..)
   simp only [Option.getD_none]
   unfold gS
   by_cases h:w.sec=i
   ·rw [if_pos h,h,Int.toNat_natCast,List.getD_eq_getElem?_getD,List.getElem?_set_self hi]
    rfl
   ·rw [if_neg h,List.getD_eq_getElem?_getD,List.getElem?_set_ne (by omega),←List.getD_eq_getElem?_getD]
    rfl
def payAt (l:List DWrite) (i:Nat):DWrite:=⟨6 + (i:Int),(l.getD i ⟨0,[]⟩).data⟩
def payL (l:List DWrite) (n:Nat):List DWrite:=(List.range n).map (payAt l)
def jW (l:List DWrite):List DWrite:=⟨2,padTo (numsT l) 32⟩ :: payL l l.length
def txnS (q:Int) (l:List DWrite):List DStep:=(jW l).map stepW++([flushS,stepW ⟨1,commitS q l⟩,flushS]++(l.map stepW++clearS))
theorem jW_mem {l:List DWrite} {w:DWrite} (h:w ∈ jW l):w=⟨2,padTo (numsT l) 32⟩∨∃ i,∃ h:i < l.length,w=⟨6 + (i:Int),l[i].data⟩:=by
 rcases List.mem_cons.1 h with h | h
 ·exact .inl h
 ·right
  obtain ⟨i,hi,rfl⟩:=List.mem_map.1 h
  have hl:=List.mem_range.1 hi
  exact ⟨i,hl,by unfold payAt;simp [hl]⟩
theorem jW_sec {l:List DWrite} (hl:TxnL l) {w:DWrite} (h:w ∈ jW l):(w.sec=2∨6≤w.sec∧w.sec < 10)∧w.data.length=32:=by
 have h4:=hl.len
 rcases jW_mem h with rfl | ⟨i,hi,rfl⟩
 ·have hn:=numsT_len (l:=l) fun w hw=>(hl.num2 w hw).1
  refine ⟨.inl rfl,?_⟩
  simp only [padTo_len]
  omega
 ·exact ⟨.inr ⟨by simp only;omega,by simp only;omega⟩,hl.data l[i] (List.getElem_mem hi)⟩
theorem jW_2 {l:List DWrite} (hl:TxnL l):lastW (jW l) 2=some (padTo (numsT l) 32):=by
 refine lastW_hits (w:=⟨2,padTo (numsT l) 32⟩) (List.mem_cons_self ..) rfl fun v hv e => ?_
 rcases jW_mem hv with rfl | ⟨i,hi,rfl⟩
 ·rfl
 ·simp only at e
  omega
theorem jW_6 {l:List DWrite} (hl:TxnL l) {k:Nat} (hk:k < l.length):lastW (jW l) (6 + (k:Int))=some l[k].data:=by
 refine lastW_hits (w:=⟨6 + (k:Int),l[k].data⟩) ?_ rfl fun v hv e => ?_
 ·refine List.mem_cons_of_mem _ (List.mem_map.2 ⟨k,List.mem_range.2 hk,?_⟩)
  unfold payAt
  simp [hk]
 ·rcases jW_mem hv with rfl | ⟨i,hi,rfl⟩
  ·simp only at e
   omega
  ·simp only at e
   have:i=k:=by omega
   subst this
   rfl
theorem jW_len {l:List DWrite}:(jW l).length=l.length + 1:=by simp [jW,payL]
def WOk (w:DWrite):Prop:=0≤w.sec∧w.sec < 73∧w.data.length=32
structure DOk (x:DDisk):Prop where
 len:x.secs.length=73
 secs:∀ s ∈ x.secs,s.length=32
 pend:∀ w ∈ x.pend,WOk w
 few:x.pend.length≤100
theorem DOk.disk {x:DDisk} (h:DOk x):isDisk x=true:=isDisk_iff.2 ⟨by rw [h.len];decide,by have:=h.few;omega,h.secs,fun w hw=>by rw [h.len];exact h.pend w hw⟩
theorem run_writes:∀ {ws:List DWrite} {x:DDisk},DOk x→(∀ w ∈ ws,WOk w)→x.pend.length + ws.length≤100→(ws.map stepW).foldl stepD x=⟨x.secs,x.pend++ws⟩∧DOk ⟨x.secs,x.pend++ws⟩
 | [],x,hx,_,_=>by simpa using hx
 | w :: ws,x,hx,hw,hl=>by
  simp only [List.length_cons] at hl
  have h1:=hw w (List.mem_cons_self ..)
  have hst:stepD x (stepW w)=⟨x.secs,x.pend ++ [w]⟩:=by
   rw [stepD_write hx.disk rfl]
   have hok:writeOK x (stepW w).w.sec (stepW w).w.data=true:=by
    unfold writeOK stepW
    simp only [Bool.and_eq_true,decide_eq_true_eq,hx.len]
    exact ⟨⟨⟨h1.1,h1.2.1⟩,h1.2.2⟩,by omega⟩
   rw [if_pos hok]
   rfl
  have hx2:DOk ⟨x.secs,x.pend ++ [w]⟩:=⟨hx.len,hx.secs,fun v hv=>by
   rcases List.mem_append.1 hv with h | h
   ·exact hx.pend v h
   ·rw [List.mem_singleton] at h
    rw [h]
    exact h1,by simp;omega⟩
  have key:=run_writes (ws:=ws) hx2 (fun v hv=>hw v (List.mem_cons_of_mem _ hv)) (by simp;omega)
  rw [List.map_cons,List.foldl_cons,hst]
  simpa [List.append_assoc] using key
theorem run_flush {x:DDisk} (h:DOk x):stepD x flushS=⟨storeAll x.secs x.pend,[]⟩∧DOk ⟨storeAll x.secs x.pend,[]⟩:=
 ⟨stepD_flush h.disk rfl,by rw [storeAll_len];exact h.len,storeAll_secs h.secs fun w hw=>(h.pend w hw).2.2,fun w hw=>by simp at hw,by simp⟩
structure OutC (x c:DDisk):Prop where
 pend:c.pend = []
 len:c.secs.length=73
 secs:∀ s ∈ c.secs,s.length=32
 one:∀ i,i < 73→gS c.secs i=gS x.secs i∨∃ w ∈ x.pend,w.sec=i∧gS c.secs i=w.data
theorem OutC.ok {x c:DDisk} (h:OutC x c):DOk c:=⟨h.len,h.secs,by rw [h.pend];simp,by rw [h.pend];simp⟩
def outJ (i:Nat):Prop:=i < 1∨70≤i
structure OldD (D:List Str) (S:List Str):Prop where
 one:gS S 1=zero32
 out:∀ i,i < 73→outJ i→gS S i=gS D i
structure NewD (D:List Str) (l:List DWrite) (S:List Str):Prop where
 one:gS S 1=zero32
 out:∀ i,i < 73→outJ i→gS S i=(lastW l i).getD (gS D i)
structure MidD (D:List Str) (q:Int) (l:List DWrite) (S:List Str):Prop where
 one:gS S 1=commitS q l
 two:gS S 2=padTo (numsT l) 32
 pay:∀ k,(h:k < l.length)→gS S (6 + k)=l[k].data
 out:∀ i,i < 73→outJ i→lastW l i=none→gS S i=gS D i
def Fine (D:List Str) (q:Int) (l:List DWrite) (x:DDisk):Prop:=∀ c,OutC x c→OldD D c.secs∨MidD D q l c.secs∨NewD D l c.secs
def AllPre (Q:DDisk→Prop) (x:DDisk) (ss:List DStep):Prop:=∀ n,Q ((ss.take n).foldl stepD x)
theorem AllPre.append {Q:DDisk→Prop} {x y:DDisk} {s1 s2:List DStep} (h1:AllPre Q x s1) (hy:s1.foldl stepD x=y) (h2:AllPre Q y s2):AllPre Q x (s1++s2):=by
 intro n
 rw [List.take_append,List.foldl_append]
 rcases Nat.le_total n s1.length with h | h
 ·rw [Nat.sub_eq_zero_of_le h,List.take_zero]
  exact h1 n
 ·rw [List.take_of_length_le h,hy]
  exact h2 _
theorem AllPre.writes {Q:DDisk→Prop} {x:DDisk} {ws:List DWrite} (hx:DOk x) (hw:∀ w ∈ ws,WOk w) (hl:x.pend.length + ws.length≤100) (h:∀ n,Q ⟨x.secs,x.pend++ws.take n⟩):AllPre Q x (ws.map stepW):=by
 intro n
 rw [←List.map_take,(run_writes hx (fun w hm=>hw w (List.mem_of_mem_take hm)) (by rw [List.length_take];omega)).1]
 exact h n
theorem AllPre.cons {Q:DDisk→Prop} {x:DDisk} {s:DStep} {ss:List DStep} (h0:Q x) (h:AllPre Q (stepD x s) ss):AllPre Q x (s :: ss):=by
 intro n
 rcases n with _ | n
 ·exact h0
 ·rw [List.take_succ_cons,List.foldl_cons]
  exact h n
theorem AllPre.nil {Q:DDisk→Prop} {x:DDisk} (h0:Q x):AllPre Q x []:=fun n=>by rw [List.take_nil];exact h0
section
variable {D:List Str} {q:Int} {l:List DWrite}
theorem txn_sec {i:Nat} (hl:TxnL l) (hi:i < 70) (h0:i≠0):∀ w ∈ l,w.sec≠(i:Int):=fun w hw e=>by
 have:=hl.sec w hw
 omega
theorem txnS_fine (hD:D.length=73) (hD2:∀ s ∈ D,s.length=32) (h1:gS D 1=zero32) (hq:0≤q∧q≤1000000000) (hl:TxnL l) :
  AllPre (Fine D q l) ⟨D,[]⟩ (txnS q l)∧∀ c,OutC ((txnS q l).foldl stepD ⟨D,[]⟩) c→NewD D l c.secs:=by
 have h4:=hl.len
 have x0:DOk ⟨D,[]⟩:=⟨hD,hD2,by simp,by simp⟩
 have hjw:∀ w ∈ jW l,WOk w:=fun w hw=>by
  have:=jW_sec hl hw
  exact ⟨by omega,by omega,this.2⟩
 have hlw:∀ w ∈ l,WOk w:=fun w hw=>by
  have:=hl.sec w hw
  exact ⟨by omega,by omega,hl.data w hw⟩
 have hjl:=jW_len (l:=l)
 have hcl:=commit_len hq hl
 obtain ⟨C,hC⟩:∃ C,C=commitS q l:=⟨_,rfl⟩
 -- the journal
 have old0:∀ ws:List DWrite,(∀ w ∈ ws,w ∈ jW l)→∀ c,OutC ⟨D,ws⟩ c→OldD D c.secs:=by
  intro ws hws c hc
  refine ⟨?_,fun i hi ho => ?_⟩
  ·rcases hc.one 1 (by decide) with h | ⟨w,hw,e,-⟩
   ·rw [h];exact h1
   ·have:=jW_sec hl (hws w hw)
    exfalso;omega
  ·rcases hc.one i hi with h | ⟨w,hw,e,-⟩
   ·exact h
   ·have:=jW_sec hl (hws w hw)
    unfold outJ at ho
    exfalso;omega
 obtain ⟨e1,x1⟩:=run_writes x0 hjw (by simp;omega)
 simp only [List.nil_append] at e1 x1
 obtain ⟨e2,x2⟩:=run_flush x1
 simp only at e2 x2
 obtain ⟨S1,hS1⟩:∃ S1,S1=storeAll D (jW l):=⟨_,rfl⟩
 rw [←hS1] at e2 x2
 have g1:∀ i,i < 73→gS S1 i=(lastW (jW l) i).getD (gS D i):=fun i hi=>by
  rw [hS1]
  exact store_get (by rw [hD];exact hi) fun w hw=>(hjw w hw).1
 have jout:∀ i:Nat,i < 73→outJ i∨i=1→gS S1 i=gS D i:=fun i hi ho=>by
  rw [g1 i hi,lastW_no fun w hw e => ?_]
  ·rfl
  ·have:=jW_sec hl hw
   unfold outJ at ho
   omega
 -- the commit sector
 have hcw:WOk ⟨1,C⟩:=⟨show (0:Int)≤1 by decide,show (1:Int) < 73 by decide,by rw [hC];exact hcl⟩
 obtain ⟨e3,x3⟩:=run_writes (ws := [⟨1,C⟩]) x2 (fun w hw=>by rw [List.mem_singleton] at hw;rw [hw];exact hcw) (by simp)
 simp only [List.nil_append,List.map_cons,List.map_nil,List.foldl_cons,List.foldl_nil] at e3 x3
 obtain ⟨e4,x4⟩:=run_flush x3
 simp only at e4 x4
 obtain ⟨S2,hS2⟩:∃ S2,S2=storeAll S1 [⟨1,C⟩]:=⟨_,rfl⟩
 rw [←hS2] at e4 x4
 have g2:∀ i,i < 73→gS S2 i=if i=1 then C else gS S1 i:=fun i hi=>by
  rw [hS2,store_get (by rw [x2.len];exact hi) (fun w hw=>by rw [List.mem_singleton] at hw;rw [hw];exact (show (0:Int)≤1 by decide))]
  by_cases h:i=1
  ·subst h
   rfl
  ·rw [if_neg h,lastW_no fun w hw e => ?_]
   ·rfl
   ·rw [List.mem_singleton] at hw
    rw [hw] at e
    simp only at e
    omega
 -- the disks whose journal holds the transaction
 have mid:∀ S:List Str,gS S 1=C→(∀ i,1 < i→i < 70→gS S i=gS S1 i)→(∀ i,i < 73→outJ i→lastW l i=none→gS S i=gS D i)→MidD D q l S:=by
  intro S a b c
  refine ⟨a.trans hC,?_,fun k hk => ?_,c⟩
  ·rw [b 2 (by decide) (by decide),g1 2 (by decide)]
   have:=jW_2 hl
   rw [show ((2:Nat):Int)=2 from rfl,this]
   rfl
  ·rw [b (6 + k) (by omega) (by omega),g1 (6 + k) (by omega)]
   have:=jW_6 hl hk
   rw [show ((6 + k:Nat):Int)=6 + (k:Int) by omega,this]
   rfl
 have mid2:∀ (S:List Str) (ws:List DWrite),S.length=73→gS S 1=C→(∀ i,1 < i→i < 70→gS S i=gS S1 i)→(∀ i,i < 73→outJ i→lastW l i=none→gS S i=gS D i)→(∀ w ∈ ws,w ∈ l)→∀ c,OutC ⟨S,ws⟩ c→MidD D q l c.secs:=by
  intro S ws hS a b o hws c hc
  refine mid c.secs ?_ (fun i h1 h2 => ?_) (fun i hi ho hn => ?_)
  ·rcases hc.one 1 (by decide) with h | ⟨w,hw,e,-⟩
   ·exact h.trans a
   ·exact absurd e (txn_sec (i:=1) hl (by decide) (by decide) w (hws w hw))
  ·rcases hc.one i (by omega) with h | ⟨w,hw,e,-⟩
   ·exact h.trans (b i h1 h2)
   ·exact absurd e (txn_sec hl h2 (by omega) w (hws w hw))
  ·rcases hc.one i hi with h | ⟨w,hw,e,-⟩
   ·exact h.trans (o i hi ho hn)
   ·exfalso
    have hk:lastW l i≠none:=by
     intro hn2
     have key:∀ l:List DWrite,w ∈ l→lastW l i=none→False:=by
      intro l
      induction l with
      | nil=>intro h;cases h
      | cons v l ih=>
       intro hm hn
       rw [lastW] at hn
       cases hl:lastW l i with
       | some t=>rw [hl] at hn;cases hn
       | none=>
        rw [hl] at hn
        simp only at hn
        rcases List.mem_cons.1 hm with rfl | hm
        ·rw [if_pos e] at hn
         cases hn
        ·exact ih hm hl
     exact key l (hws w hw) hn2
    exact hk hn
 have m2:gS S2 1=C:=by rw [g2 1 (by decide),if_pos rfl]
 have m2b:∀ i,1 < i→i < 70→gS S2 i=gS S1 i:=fun i a b=>by rw [g2 i (by omega),if_neg (by omega)]
 have m2o:∀ i,i < 73→outJ i→gS S2 i=gS D i:=fun i hi ho=>by
  rw [g2 i hi,if_neg (by unfold outJ at ho;omega)]
  exact jout i hi (.inl ho)
 -- the writes
 obtain ⟨e5,x5⟩:=run_writes x4 hlw (by simp;omega)
 simp only [List.nil_append] at e5 x5
 obtain ⟨e6,x6⟩:=run_flush x5
 simp only at e6 x6
 obtain ⟨S3,hS3⟩:∃ S3,S3=storeAll S2 l:=⟨_,rfl⟩
 rw [←hS3] at e6 x6
 have g3:∀ i,i < 73→gS S3 i=(lastW l i).getD (gS S2 i):=fun i hi=>by
  rw [hS3]
  exact store_get (by rw [x4.len];exact hi) fun w hw=>(hlw w hw).1
 have m3:∀ i,i≠0→i < 70→gS S3 i=gS S2 i:=fun i a b=>by
  rw [g3 i (by omega),lastW_no (txn_sec hl b a)]
  rfl
 have m3o:∀ i,i < 73→outJ i→gS S3 i=(lastW l i).getD (gS D i):=fun i hi ho=>by rw [g3 i hi,m2o i hi ho]
 -- the end
 have hzw:WOk ⟨1,zero32⟩:=⟨by decide,by decide,rfl⟩
 obtain ⟨e7,x7⟩:=run_writes (ws := [⟨1,zero32⟩]) x6 (fun w hw=>by rw [List.mem_singleton] at hw;rw [hw];exact hzw) (by simp)
 simp only [List.nil_append,List.map_cons,List.map_nil,List.foldl_cons,List.foldl_nil] at e7 x7
 obtain ⟨e8,x8⟩:=run_flush x7
 simp only at e8 x8
 obtain ⟨S4,hS4⟩:∃ S4,S4=storeAll S3 [⟨1,zero32⟩]:=⟨_,rfl⟩
 rw [←hS4] at e8 x8
 have g4:∀ i,i < 73→gS S4 i=if i=1 then zero32 else gS S3 i:=fun i hi=>by
  rw [hS4,store_get (by rw [x6.len];exact hi) (fun w hw=>by rw [List.mem_singleton] at hw;rw [hw];exact (show (0:Int)≤1 by decide))]
  by_cases h:i=1
  ·subst h
   rfl
  ·rw [if_neg h,lastW_no fun w hw e => ?_]
   ·rfl
   ·rw [List.mem_singleton] at hw
    rw [hw] at e
    simp only at e
    omega
 have new4:∀ c,OutC ⟨S4,[]⟩ c→NewD D l c.secs:=by
  intro c hc
  have hs:∀ i,i < 73→gS c.secs i=gS S4 i:=fun i hi=>by
   rcases hc.one i hi with h | ⟨w,hw,-⟩
   ·exact h
   ·cases hw
  refine ⟨by rw [hs 1 (by decide),g4 1 (by decide),if_pos rfl],fun i hi ho => ?_⟩
  rw [hs i hi,g4 i hi,if_neg (by unfold outJ at ho;omega),m3o i hi ho]
 have eclear:clearS = [flushS,stepW ⟨1,zero32⟩,flushS]:=rfl
 have full:(txnS q l).foldl stepD ⟨D,[]⟩=⟨S4,[]⟩:=by
  unfold txnS
  rw [List.foldl_append,e1,List.foldl_append,List.foldl_cons,e2,List.foldl_cons,←hC,e3,List.foldl_cons,e4,List.foldl_nil,List.foldl_append,e5,eclear,List.foldl_cons,e6,List.foldl_cons,e7,List.foldl_cons,e8,List.foldl_nil]
 refine ⟨?_,fun c hc=>new4 c (by rw [full] at hc;exact hc)⟩
 unfold txnS
 refine AllPre.append (AllPre.writes x0 hjw (by simp;omega) fun n c hc => .inl ?_) e1 ?_
 ·simp only [List.nil_append] at hc
  exact old0 _ (fun w hw=>List.mem_of_mem_take hw) c hc
 rw [List.cons_append]
 refine AllPre.cons (fun c hc => .inl (old0 _ (fun w hw=>hw) c hc)) ?_
 rw [e2,List.cons_append,←hC]
 refine AllPre.cons (fun c hc => .inl ?_) ?_
 ·have hs:∀ i,i < 73→gS c.secs i=gS S1 i:=fun i hi=>by
   rcases hc.one i hi with h | ⟨w,hw,-⟩
   ·exact h
   ·cases hw
  exact ⟨by rw [hs 1 (by decide),jout 1 (by decide) (.inr rfl)];exact h1,fun i hi ho=>by rw [hs i hi,jout i hi (.inl ho)]⟩
 rw [e3,List.cons_append,List.nil_append]
 refine AllPre.cons (fun c hc => ?_) ?_
 ·have hs:∀ i,i < 73→i≠1→gS c.secs i=gS S1 i:=fun i hi hne=>by
   rcases hc.one i hi with h | ⟨w,hw,e,-⟩
   ·exact h
   ·rw [List.mem_singleton] at hw
    rw [hw] at e
    simp only at e
    exfalso;omega
  rcases hc.one 1 (by decide) with h | ⟨w,hw,e,h⟩
  ·left
   exact ⟨by rw [h];simp only;rw [jout 1 (by decide) (.inr rfl)];exact h1,fun i hi ho=>by rw [hs i hi (by unfold outJ at ho;omega),jout i hi (.inl ho)]⟩
  ·right;left
   rw [List.mem_singleton] at hw
   rw [hw] at h
   exact mid c.secs h (fun i a b=>hs i (by omega) (by omega)) (fun i hi ho _=>by rw [hs i hi (by unfold outJ at ho;omega),jout i hi (.inl ho)])
 rw [e4]
 refine AllPre.append (AllPre.writes x4 hlw (by simp;omega) fun n c hc => .inr (.inl ?_)) e5 ?_
 ·simp only [List.nil_append] at hc
  exact mid2 S2 _ x4.len m2 m2b (fun i hi ho _=>m2o i hi ho) (fun w hw=>List.mem_of_mem_take hw) c hc
 rw [eclear]
 refine AllPre.cons (fun c hc => .inr (.inl (mid2 S2 _ x4.len m2 m2b (fun i hi ho _=>m2o i hi ho) (fun w hw=>hw) c hc))) ?_
 rw [e6]
 have q3:gS S3 1=C:=by rw [m3 1 (by decide) (by decide),m2]
 have q3b:∀ i,1 < i→i < 70→gS S3 i=gS S1 i:=fun i a b=>by rw [m3 i (by omega) b,m2b i a b]
 have q3o:∀ i,i < 73→outJ i→lastW l i=none→gS S3 i=gS D i:=fun i hi ho hn=>by rw [m3o i hi ho,hn];rfl
 refine AllPre.cons (fun c hc => .inr (.inl (mid2 S3 [] x6.len q3 q3b q3o (fun w hw=>by cases hw) c hc))) ?_
 rw [e7]
 refine AllPre.cons (fun c hc => .inr ?_) ?_
 ·have hs:∀ i,i < 73→i≠1→gS c.secs i=gS S3 i:=fun i hi hne=>by
   rcases hc.one i hi with h | ⟨w,hw,e,-⟩
   ·exact h
   ·rw [List.mem_singleton] at hw
    rw [hw] at e
    simp only at e
    exfalso;omega
  rcases hc.one 1 (by decide) with h | ⟨w,hw,e,h⟩
  ·left
   exact mid c.secs (h.trans q3) (fun i a b=>by rw [hs i (by omega) (by omega),q3b i a b]) (fun i hi ho hn=>by rw [hs i hi (by unfold outJ at ho;omega),q3o i hi ho hn])
  ·right
   rw [List.mem_singleton] at hw
   rw [hw] at h
   exact ⟨h,fun i hi ho=>by rw [hs i hi (by unfold outJ at ho;omega),m3o i hi ho]⟩
 rw [e8]
 exact AllPre.nil fun c hc => .inr (.inr (new4 c hc))
end
end Go.Fw
