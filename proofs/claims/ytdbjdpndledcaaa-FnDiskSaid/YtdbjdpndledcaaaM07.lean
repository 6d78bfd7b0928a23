/- Plain law: a crash, and what recovery makes of it. -/
import Derived.Test.YtdbjdpndledcaaaM06
namespace Go.Fw
set_option linter.unusedVariables false
set_option linter.unusedSimpArgs false
set_option maxRecDepth 8000
def keptN (ws:List DWrite) (K:List Bool):Nat→List DWrite
 | 0 => []
 | i + 1=>if K.getD i false=true then keptN ws K i ++ [ws.getD i ⟨0,[]⟩] else keptN ws K i
theorem keptN_mem {ws:List DWrite} {K:List Bool} {w:DWrite}:∀ {i:Nat},i≤ws.length→w ∈ keptN ws K i→w ∈ ws
 | 0,_,h=>by simp [keptN] at h
 | i + 1,hi,h=>by
  rw [keptN] at h
  split at h
  ·rcases List.mem_append.1 h with h | h
   ·exact keptN_mem (by omega) h
   ·rw [List.mem_singleton] at h
    have hl:i < ws.length:=by omega
    rw [h,show ws.getD i ⟨0,[]⟩=ws[i] by simp [hl]]
    exact List.getElem_mem hl
  ·exact keptN_mem (by omega) h
theorem store_snoc {S:List Str} {a:List DWrite} {w:DWrite}:storeAll S (a ++ [w])=(storeAll S a).set w.sec.toNat w.data:=by
 unfold storeAll
 rw [List.foldl_append]
 rfl
def crashD (x:DDisk) (K:List Bool):DDisk:=if isDisk x then ⟨storeAll x.secs (keptN x.pend K x.pend.length),[]⟩ else x
theorem crash_out {x:DDisk} {K:List Bool} (hd:isDisk x=true) (hn:x.secs.length=73):OutC x (crashD x K):=by
 have h:=isDisk_iff.1 hd
 rw [crashD,if_pos hd]
 have hk:∀ w ∈ keptN x.pend K x.pend.length,w ∈ x.pend:=fun w hw=>keptN_mem (Nat.le_refl _) hw
 refine ⟨rfl,by rw [storeAll_len];exact hn,storeAll_secs h.2.2.1 fun w hw=>(h.2.2.2 w (hk w hw)).2.2,fun i hi => ?_⟩
 simp only
 rw [store_get (by rw [hn];exact hi) fun w hw=>(h.2.2.2 w (hk w hw)).1]
 cases hl:lastW (keptN x.pend K x.pend.length) i with
 | none=>exact .inl rfl
 | some s=>
  obtain ⟨w,hw,e1,e2⟩:=lastW_some hl
  exact .inr ⟨w,hk w hw,e1,e2.symm⟩
theorem readD_gS {c:DDisk} {i:Nat} (hp:c.pend = []):readD c i=gS c.secs i:=by
 unfold readD
 rw [hp]
 rfl
theorem none_zero {c:DDisk} (hp:c.pend = []) (h1:gS c.secs 1=zero32):readJ c=none:=by
 have hz:jNum c=0:=by
  unfold jNum
  rw [readD_gS hp,h1]
  decide
 unfold readJ
 rw [if_neg fun h=>by have:=h.2.2.1.1;omega]
theorem recov_none {c:DDisk} (h:readJ c=none):recovD c=c:=by
 unfold recovD recSteps
 rw [h]
 rfl
structure Recov (D:List Str) (l:List DWrite) (r:DDisk):Prop where
 ok:DOk r
 pend:r.pend = []
 none_:readJ r=none
theorem recov_mid {D:List Str} {q:Int} {l:List DWrite} {c:DDisk} (hl:TxnL l) (hq:0≤q∧q≤1000000000) (hp:c.pend = []) (hc:DOk c) (h:MidD D q l c.secs):Recov D l (recovD c)∧∀ i,i < 73→outJ i→gS (recovD c).secs i=(lastW l i).getD (gS D i):=by
 have h4:=hl.len
 have hj:readJ c=some (q,l):=readJ_of hc.disk hc.len hq hl (by rw [readD_gS hp];exact h.one) (by rw [readD_gS hp];exact h.two) fun i hi=>by rw [readD_gS hp];exact h.pay i hi
 have hlw:∀ w ∈ l,WOk w:=fun w hw=>by
  have:=hl.sec w hw
  exact ⟨by omega,by omega,hl.data w hw⟩
 have e0:recovD c=(l.map stepW++clearS).foldl stepD c:=by
  unfold recovD recSteps
  rw [hj]
  simp only
  unfold runSt
  rw [Int.toNat_natCast,List.take_length]
 obtain ⟨S,P⟩:=c
 simp only at hp h
 subst hp
 obtain ⟨e5,x5⟩:=run_writes hc hlw (by simp;omega)
 simp only [List.nil_append] at e5 x5
 obtain ⟨e6,x6⟩:=run_flush x5
 simp only at e6 x6
 obtain ⟨S3,hS3⟩:∃ S3,S3=storeAll S l:=⟨_,rfl⟩
 rw [←hS3] at e6 x6
 have g3:∀ i,i < 73→gS S3 i=(lastW l i).getD (gS S i):=fun i hi=>by
  rw [hS3]
  exact store_get (by have:=hc.len;simp only at this;omega) fun w hw=>(hlw w hw).1
 have hzw:WOk ⟨1,zero32⟩:=⟨by decide,by decide,rfl⟩
 obtain ⟨e7,x7⟩:=run_writes (ws := [⟨1,zero32⟩]) x6 (fun w hw=>by rw [List.mem_singleton] at hw;rw [hw];exact hzw) (by simp)
 simp only [List.nil_append,List.map_cons,List.map_nil,List.foldl_cons,List.foldl_nil] at e7 x7
 obtain ⟨e8,x8⟩:=run_flush x7
 simp only at e8 x8
 obtain ⟨S4,hS4⟩:∃ S4,S4=storeAll S3 [⟨1,zero32⟩]:=⟨_,rfl⟩
 rw [←hS4] at e8 x8
 have g4:∀ i,i < 73→gS S4 i=if i=1 then zero32 else gS S3 i:=fun i hi=>by
  rw [hS4,store_get (by rw [x6.len];exact hi) (fun w hw=>by rw [List.mem_singleton] at hw;rw [hw];exact (show (0:Int)≤1 by decide))]
  by_cases h:i=1
  ·subst h
   rfl
  ·rw [if_neg h,lastW_no fun w hw e => ?_]
   ·rfl
   ·rw [List.mem_singleton] at hw
    rw [hw] at e
    simp only at e
    omega
 have eclear:clearS = [flushS,stepW ⟨1,zero32⟩,flushS]:=rfl
 have full:recovD ⟨S,[]⟩=⟨S4,[]⟩:=by
  rw [e0,List.foldl_append,e5,eclear,List.foldl_cons,e6,List.foldl_cons,e7,List.foldl_cons,e8,List.foldl_nil]
 rw [full]
 refine ⟨⟨x8,rfl,none_zero rfl (by rw [g4 1 (by decide),if_pos rfl])⟩,fun i hi ho => ?_⟩
 simp only
 rw [g4 i hi,if_neg (by unfold outJ at ho;omega),g3 i hi]
 cases hw:lastW l i with
 | some s=>rfl
 | none=>exact h.out i hi ho hw
theorem journal_main {D:List Str} {q:Int} {l:List DWrite} (K:List Bool) (n:Nat) (hD:D.length=73) (hD2:∀ s ∈ D,s.length=32) (h1:gS D 1=zero32) (hq:0≤q∧q≤1000000000) (hl:TxnL l) :
  ∃ r,recovD (crashD (((txnS q l).take n).foldl stepD ⟨D,[]⟩) K)=r∧Recov D l r∧((∀ i,i < 73→outJ i→gS r.secs i=gS D i)∧n < (txnS q l).length∨∀ i,i < 73→outJ i→gS r.secs i=(lastW l i).getD (gS D i)):=by
 have hd0:isDisk ⟨D,[]⟩=true:=isDisk_iff.2 ⟨by simp only;omega,by simp,hD2,by simp⟩
 obtain ⟨hf,hn⟩:=txnS_fine hD hD2 h1 hq hl
 have hx:=hf n
 have hd:isDisk (((txnS q l).take n).foldl stepD ⟨D,[]⟩)=true:=runSt_disk hd0
 have hlen:(((txnS q l).take n).foldl stepD ⟨D,[]⟩).secs.length=73:=by rw [runSt_len.1];exact hD
 have hend:(txnS q l).length≤n→∀ c,OutC (((txnS q l).take n).foldl stepD ⟨D,[]⟩) c→NewD D l c.secs:=fun h=>by
  rw [List.take_of_length_le h]
  exact hn
 generalize ((txnS q l).take n).foldl stepD ⟨D,[]⟩=x at *
 have ho:=crash_out (K:=K) hd hlen
 refine ⟨_,rfl,?_⟩
 generalize crashD x K=c at *
 have hnew:NewD D l c.secs→Recov D l (recovD c)∧∀ i,i < 73→outJ i→gS (recovD c).secs i=(lastW l i).getD (gS D i):=fun h=>by
  have hz:=none_zero ho.pend h.one
  rw [recov_none hz]
  exact ⟨⟨ho.ok,ho.pend,hz⟩,h.out⟩
 by_cases hlt:n < (txnS q l).length
 ·rcases hx c ho with h | h | h
  ·have hz:=none_zero ho.pend h.one
   rw [recov_none hz]
   exact ⟨⟨ho.ok,ho.pend,hz⟩, .inl ⟨h.out,hlt⟩⟩
  ·obtain ⟨a,b⟩:=recov_mid hl hq ho.pend ho.ok h
   exact ⟨a, .inr b⟩
  ·obtain ⟨a,b⟩:=hnew h
   exact ⟨a, .inr b⟩
 ·obtain ⟨a,b⟩:=hnew (hend (by omega) c ho)
  exact ⟨a, .inr b⟩
theorem commit_main {D:List Str} {q:Int} {l:List DWrite} (hD:D.length=73) (hD2:∀ s ∈ D,s.length=32) (hq:0≤q∧q≤1000000000) (hl:TxnL l):readJ ⟨D,jW l ++ [⟨1,commitS q l⟩]⟩=some (q,l):=by
 have h4:=hl.len
 have hcl:=commit_len hq hl
 have hjl:=jW_len (l:=l)
 have hd:isDisk ⟨D,jW l ++ [⟨1,commitS q l⟩]⟩=true:=isDisk_iff.2 ⟨by simp only;omega,by simp only [List.length_append,List.length_singleton];omega,hD2,fun w hw=>by
  simp only at hw ⊢
  rcases List.mem_append.1 hw with h | h
  ·have:=jW_sec hl h
   omega
  ·rw [List.mem_singleton] at h
   rw [h]
   simp only
   omega⟩
 refine readJ_of hd hD hq hl ?_ ?_ fun i hi => ?_
 ·unfold readD
  simp only
  rw [lastW_snoc,if_pos (show (1:Int)=((1:Nat):Int) from rfl)]
  rfl
 ·unfold readD
  simp only
  rw [lastW_snoc,if_neg (show ¬ (1:Int)=((2:Nat):Int) by decide),show ((2:Nat):Int)=2 from rfl,jW_2 hl]
  rfl
 ·unfold readD
  simp only
  rw [lastW_snoc,if_neg (show ¬ (1:Int)=((6 + i:Nat):Int) by omega),show ((6 + i:Nat):Int)=6 + (i:Int) by omega,jW_6 hl hi]
  rfl
end Go.Fw
