/- The framework of this session, part 3: an evaluator over the loaded code, and that it is sound. No statement is assumed. -/
import Derived.Test.YtombegncnofnbaaFb
import Derived.LoopN
import Derived.ProofKit
import Derived.OpenShut
import Derived.ShutString
import Derived.ChangeOld
import Derived.SizedLaws
import Derived.Below
import Derived.Carry
import Derived.KernelRfl
namespace Go.Fw
set_option linter.unusedVariables false
set_option linter.unusedSimpArgs false
section
variable {w:World} {S:Nat→Prop} {h:Heap} {ρ:Rho}
theorem scrub1_same {x:AV} (h1:∀ r p sz o n nl,x ≠ .ref r p sz o n nl) (h2:∀ r p i j,x ≠ .ptr r p i j):scrub1 h x=x:=by
 cases x<;>first | rfl | exact absurd rfl (h1 _ _ _ _ _ _) | exact absurd rfl (h2 _ _ _ _)
theorem VB.scrub {x:AV} {v:Value} (hv:VB w S h ρ x v):VB w S (scrubH h h) ρ (scrub2 h x) v:=by
 cases hv with
 | up hv=>
  by_cases hx:(∃ cs,x = .agg cs)∨∃ f cs,x = .fn f cs
  ·cases hv with
   | fv hf=>
    rcases hx with ⟨cs,rfl⟩ | ⟨f,cs,rfl⟩
    ·cases hf with
     | agg hn hc=>exact .agg (by simp [hn]) (fun k c u h2 h3=>by
       simp only [List.getElem?_map,Option.map_eq_some_iff] at h2
       obtain ⟨c0,h4,rfl⟩:=h2
       exact (VA.fv (hc k c0 u h4 h3)).scrub)
    ·cases hf with
     | fn hn hc=>exact .fn (by simp [hn]) (fun k c u h2 h3=>by
       simp only [List.getElem?_map,Option.map_eq_some_iff] at h2
       obtain ⟨c0,h4,rfl⟩:=h2
       exact (VA.fv (hc k c0 u h4 h3)).scrub)
   | ref=>rcases hx with ⟨_,h⟩ | ⟨_,_,h⟩<;>cases h
   | ptr=>rcases hx with ⟨_,h⟩ | ⟨_,_,h⟩<;>cases h
  ·have:scrub2 h x=scrub1 h x:=by
    cases x<;>first | rfl | exact absurd (.inl ⟨_,rfl⟩) hx | exact absurd (.inr ⟨_,_,rfl⟩) hx
   rw [this]
   exact .up hv.scrub
 | agg hn hc=>
  refine .agg (by simp [hn]) (fun k c u h2 h3 => ?_)
  simp only [List.getElem?_map,Option.map_eq_some_iff] at h2
  obtain ⟨c0,h4,rfl⟩:=h2
  exact (hc k c0 u h4 h3).scrub
 | fn hn hc=>
  refine .fn (by simp [hn]) (fun k c u h2 h3 => ?_)
  simp only [List.getElem?_map,Option.map_eq_some_iff] at h2
  obtain ⟨c0,h4,rfl⟩:=h2
  exact (hc k c0 u h4 h3).scrub
theorem VR.scrub {x:AV} {v:Value} (hv:VR w S h ρ x v):VR w S (scrubH h h) ρ (Go.Fw.scrub h x) v:=by
 cases hv with
 | up hv=>
  have:Go.Fw.scrub h x=scrub2 h x:=by
   cases hv with
   | up hv=>cases hv with
    | fv hf=>cases hf<;>rfl
    | ref=>rfl
    | ptr=>rfl
   | agg=>rfl
   | fn=>rfl
  rw [this]
  exact .up hv.scrub
 | tup hn hc=>
  refine .tup (by simp [hn]) (fun k c u h2 h3 => ?_)
  simp only [List.getElem?_map,Option.map_eq_some_iff] at h2
  obtain ⟨c0,h4,rfl⟩:=h2
  exact (hc k c0 u h4 h3).scrub
end
theorem scrub_norid {h:Heap}:∀ {x:AV},∀ r ∈ rids (scrub h x),isTemp r=false:=by
 have h1:∀ {x:AV},∀ r ∈ rid1 (scrub1 h x),isTemp r=false:=by
  intro x r hr
  unfold scrub1 at hr
  split at hr
  ·simp [rid1] at hr
  ·rename_i hst
   cases x<;>first | (simp [rid1] at hr;done) | skip
   ·simp [rid1] at hr
    subst hr
    exact (stale_ref (Bool.eq_false_iff.2 hst)).1
   ·simp [rid1] at hr
    subst hr
    exact (stale_ptr (Bool.eq_false_iff.2 hst)).1
 have h1f:∀ {cs:List AV},∀ r ∈ (cs.map (scrub1 h)).flatMap rid1,isTemp r=false:=by
  intro cs r hr
  simp only [List.mem_flatMap,List.mem_map] at hr
  obtain ⟨c,⟨c0,h2,rfl⟩,h3⟩:=hr
  exact h1 r h3
 have h2:∀ {x:AV},∀ r ∈ rid2 (scrub2 h x),isTemp r=false:=by
  intro x r hr
  by_cases hagg:(∃ cs,x = .agg cs)∨∃ f cs,x = .fn f cs
  ·rcases hagg with ⟨cs,rfl⟩ | ⟨f,cs,rfl⟩
   ·exact h1f r hr
   ·exact h1f r hr
  ·have e1:scrub2 h x=scrub1 h x:=by
    cases x<;>first | rfl | exact absurd (.inl ⟨_,rfl⟩) hagg | exact absurd (.inr ⟨_,_,rfl⟩) hagg
   have e2:rid2 (scrub1 h x)=rid1 (scrub1 h x):=by
    unfold scrub1
    split
    ·rfl
    ·cases x<;>first | rfl | exact absurd (.inl ⟨_,rfl⟩) hagg | exact absurd (.inr ⟨_,_,rfl⟩) hagg
   rw [e1,e2] at hr
   exact h1 r hr
 intro x r hr
 by_cases htup:∃ cs,x = .tup cs
 ·obtain ⟨cs,rfl⟩:=htup
  simp only [scrub,rids,List.mem_flatMap,List.mem_map] at hr
  obtain ⟨c,⟨c0,h3,rfl⟩,h4⟩:=hr
  exact h2 r h4
 ·have e1:scrub h x=scrub2 h x:=by
   cases x<;>first | rfl | exact absurd ⟨_,rfl⟩ htup
  have e2:rids (scrub2 h x)=rid2 (scrub2 h x):=by
   cases x<;>first | rfl | exact absurd ⟨_,rfl⟩ htup | (simp only [scrub2,scrub1];split<;>rfl)
  rw [e1,e2] at hr
  exact h2 r hr
theorem Sim.scrubAll {X:Fix} {D:Nat→Prop} {s:St} {a:Act} {w:World} (hs:Sim X D s a w):Sim X (fun _=>False) (scrubAll s) a w:=by
 obtain ⟨hl,hS,ρ,Fr,m,ht⟩:=hs
 have hlook:∀ r y,look r (scrubH s.h s.h)=some y→isTemp r=false∧∃ y0,look r s.h=some y0∧y=scrubRoot s.h y0:=by
  intro r y hy
  rw [look_scrubH] at hy
  split at hy
  ·cases hy
  ·rename_i ht
   simp only [Option.map_eq_some_iff] at hy
   obtain ⟨y0,h1,h2⟩:=hy
   exact ⟨by simpa using ht,y0,h1,h2.symm⟩
 refine ⟨?_,hS,ρ,Fr,⟨m.os,m.tape,m.out,m.size,m.frame,fun r y hy => ?_,fun r y b hy => ?_,fun r y r' y' b hy hy' => ?_⟩,fun k v hk => ?_⟩
 ·rintro r (⟨k,v,hk,hr⟩ | ⟨q,y,hq,hr⟩) htmp
  ·simp only [Go.Fw.scrubAll,look_scrubT,Option.map_eq_some_iff] at hk
   obtain ⟨v0,-,rfl⟩:=hk
   rw [scrub_norid r hr] at htmp
   cases htmp
  ·obtain ⟨h1,y0,h2,rfl⟩:=hlook q y hq
   rcases hr with rfl | hr
   ·rw [h1] at htmp;cases htmp
   ·cases y0 with
    | row sz xs dt=>simp [scrubRoot,ridsBox] at hr
    | box cs=>
     simp only [scrubRoot,ridsBox,List.mem_flatMap,List.mem_map] at hr
     obtain ⟨c,⟨c0,h3,rfl⟩,h4⟩:=hr
     have:=scrub_norid (h:=s.h) (x := .tup [c0]) r (by simpa [scrub,rids] using h4)
     rw [this] at htmp
     cases htmp
 ·obtain ⟨-,y0,h2,rfl⟩:=hlook r y hy
  have:=m.root r y0 h2
  cases y0 with
  | row sz xs dt=>exact this
  | box cs=>
   obtain ⟨g,vs,ty,fr,h4,h5,h6,h7,h8,h8',h9,h10⟩:=this
   refine ⟨g,vs,ty,fr,h4,h5,h6,by simpa using h7,h8,h8',fun k hk=>h9 k (by simpa using hk),fun k c hk => ?_⟩
   simp only [List.getElem?_map,Option.map_eq_some_iff] at hk
   obtain ⟨c0,hk0,rfl⟩:=hk
   obtain ⟨v,h11,h12⟩:=h10 k c0 hk0
   exact ⟨v,h11,h12.scrub⟩
 ·obtain ⟨-,y0,h2,rfl⟩:=hlook r y hy
  exact m.foot r y0 b h2
 ·obtain ⟨-,y0,h2,rfl⟩:=hlook r y hy
  obtain ⟨-,y0',h2',rfl⟩:=hlook r' y' hy'
  exact m.disj r y0 r' y0' b h2 h2'
 ·simp only [Go.Fw.scrubAll,look_scrubT,Option.map_eq_some_iff] at hk
  obtain ⟨v0,h1,rfl⟩:=hk
  obtain ⟨h2,h3⟩:=ht k v0 h1
  exact ⟨h2,h3.scrub⟩

def NoT (s:St):Prop:=s.m=false→∀ r,Men s r→isTemp r=false
theorem NoT.skip {s:St} {dst:Option Tmp} (h:NoT s):NoT (s.skip dst):=by
 intro hm r hr
 rcases hr with ⟨k,v,hk,hr⟩ | ⟨q,x,hq,hr⟩
 ·simp only [St.skip,look_putT] at hk
  split at hk
  ·injection hk with hk
   subst hk
   simp [rids,rid2,rid1] at hr
  ·exact h hm r (.inl ⟨k,v,hk,hr⟩)
 ·exact h hm r (.inr ⟨q,x,hq,hr⟩)
theorem NoT.apply {s:St} {dst:Option Tmp} {e:Eff} (h:NoT s):NoT (s.apply dst e):=by
 intro hm r hr
 simp only [St.apply,Bool.or_eq_false_iff,Bool.not_eq_false'] at hm
 obtain ⟨⟨hm1,hm2⟩,hm3⟩:=hm
 have hw:=isNilL_eq hm2
 rcases hr with ⟨k,v,hk,hr⟩ | ⟨q,x,hq,hr⟩
 ·simp only [St.apply,look_putT] at hk
  split at hk
  ·injection hk with hk
   subst hk
   rw [List.any_eq_false] at hm3
   simpa using hm3 r hr
  ·exact h hm1 r (.inl ⟨k,v,hk,hr⟩)
 ·simp only [St.apply,hw,applyWr] at hq
  exact h hm1 r (.inr ⟨q,x,hq,hr⟩)
theorem aexec_mono {T:Types} {M:Modes} {C:FuncId→List AV→AV→List AV→Prop} {s:St} {i:Nat} {o:Oper} {k k':Eff→Prop} (h:aexec T M C s i o k) (hk:∀ e,k e→k' e):aexec T M C s i o k':=by
 unfold aexec at h ⊢
 split at h
 ·rename_i hc
  rw [if_pos hc]
  split at h
  ·split at h
   ·split at h
    ·obtain ⟨res,outs,h1,h2⟩:=h
     refine ⟨res,outs,h1,?_⟩
     split at h2
     ·rename_i e he
      exact ⟨h2.1,hk e h2.2⟩
     ·exact h2.elim
    ·exact h.elim
   ·exact h.elim
  ·exact h.elim
 ·rename_i hc
  rw [if_neg hc]
  split at h
  ·rename_i e he
   exact ⟨h.1,hk e h.2⟩
  ·exact h.elim
theorem aops_noT {T:Types} {M:Modes} {C:FuncId→List AV→AV→List AV→Prop} {all:Array Oper} {Q:St→Log→Prop}:∀ (os:List Oper) (i:Nat) (s:St) (l:Log),NoT s→aops T M C all os i s l Q→aops T M C all os i s l (fun s l=>Q s l∧NoT s)
 | [],i,s,l,hn,h=>⟨h,hn⟩
 | o :: os,i,s,l,hn,h=>by
  have hdo:aexec T M C s i o (fun e=>aops T M C all os (i + 1) (s.apply o.dst e) ((i,e.rd,e.wr.map (·.1)) :: l) Q)→aexec T M C s i o (fun e=>aops T M C all os (i + 1) (s.apply o.dst e) ((i,e.rd,e.wr.map (·.1)) :: l) (fun s l=>Q s l∧NoT s)):=
   fun h=>aexec_mono h (fun e he=>aops_noT os (i + 1) _ _ hn.apply he)
  unfold aops at h ⊢
  split at h
  ·exact hdo h
  ·split at h
   ·exact ⟨fun hb=>hdo (h.1 hb),fun hb=>aops_noT os (i + 1) _ _ hn.skip (h.2 hb)⟩
   ·exact aops_noT os (i + 1) _ _ hn.skip h
   ·exact h.elim
theorem look_dangT {h:Heap} {k:Nat}:∀ {t:List (Nat × AV)},look k (dangT h t)=(look k t).map (dang1 h)
 | []=>rfl
 |(q,v) :: t=>by
  simp only [dangT,look]
  split
  ·rfl
  ·exact look_dangT
theorem dang1_or {h:Heap} {x:AV}:dang1 h x=x∨dang1 h x = .unk∧((∃ r p sz o n nl,x = .ref r p sz o n nl)∨∃ r p i j,x = .ptr r p i j):=by
 unfold dang1
 split
 ·split
  ·exact .inl rfl
  ·exact .inr ⟨rfl, .inl ⟨_,_,_,_,_,_,rfl⟩⟩
 ·split
  ·exact .inl rfl
  ·exact .inr ⟨rfl, .inr ⟨_,_,_,_,rfl⟩⟩
 ·exact .inl rfl
theorem Sim.dang {X:Fix} {D:Nat→Prop} {s:St} {a:Act} {w:World} (hs:Sim X D s a w):Sim X D (Go.Fw.dang s) a w:=by
 obtain ⟨hl,hS,ρ,Fr,m,ht⟩:=hs
 refine ⟨?_,hS,ρ,Fr,m,fun k v hk => ?_⟩
 ·rintro r (⟨k,v,hk,hr⟩ | hr)
  ·simp only [Go.Fw.dang,look_dangT,Option.map_eq_some_iff] at hk
   obtain ⟨v0,h1,rfl⟩:=hk
   rcases dang1_or (h:=s.h) (x:=v0) with h2 | ⟨h2,-⟩
   ·rw [h2] at hr
    exact hl r (.inl ⟨k,v0,h1,hr⟩)
   ·rw [h2] at hr
    simp [rids,rid2,rid1] at hr
  ·exact hl r (.inr hr)
 ·simp only [Go.Fw.dang,look_dangT,Option.map_eq_some_iff] at hk
  obtain ⟨v0,h1,rfl⟩:=hk
  obtain ⟨h3,h4⟩:=ht k v0 h1
  refine ⟨h3,?_⟩
  rcases dang1_or (h:=s.h) (x:=v0) with h2 | ⟨h2,h5⟩
  ·rw [h2];exact h4
  ·rw [h2]
   refine .up (.up (.fv (.unk ?_)))
   generalize a.tmps.getD k Go.undef=u at h4
   rcases h5 with ⟨r,p,sz,o,n,nl,rfl⟩ | ⟨r,p,i,j,rfl⟩
   ·cases h4 with
    | up h4=>cases h4 with
     | up h4=>cases h4 with
      | fv hf=>cases hf
      | ref q1 q2 q3=>
       obtain ⟨A,c,rfl,-⟩:=q3
       rfl
   ·cases h4 with
    | up h4=>cases h4 with
     | up h4=>cases h4 with
      | fv hf=>cases hf
      | ptr q1 q2=>
       obtain ⟨A,rfl⟩:=q2
       rfl
theorem Sim.finish {X:Fix} {D:Nat→Prop} {s:St} {a:Act} {w:World} {c:Cfg} (hs:Sim X D s a w) (hn:NoT s):Sim X (fun _=>False) (Go.Fw.finish c s) a w:=by
 have h1:Sim X D { s with t:=keepT (keeps c) s.t } a w:=hs.sub (fun k=>look_keepT) (fun r => .inl rfl)
 unfold Go.Fw.finish clean
 split
 ·exact (h1.gc.dang.renamed).scrubAll
 ·rename_i hm
  refine ⟨?_,h1.2⟩
  rintro r hr htmp
  have hm':s.m=false:=by simpa using hm
  have:Men s r:=by
   rcases hr with ⟨k,v,hk,hr⟩ | hr
   ·refine .inl ⟨k,v,?_,hr⟩
    rcases look_keepT (p:=keeps c) (k:=k) (t:=s.t) with h | h
    ·rw [←h];exact hk
    ·simp only at hk
     rw [h] at hk
     cases hk
   ·exact .inr hr
  rw [hn hm' r this] at htmp
  cases htmp

section
variable {X:Fix} {T:Types} {M:Modes} {C:FuncId→List AV→AV→List AV→Prop} {c:Cfg} {n:Nat} {p:Nat→Bool} {a0:Act}
def Ok (X:Fix) (p:Nat→Bool) (a0:Act) (s:St) (a:Act) (w:World):Prop:=Sim X (fun _=>False) s a w∧Kept p a0 a
def QW (X:Fix) (p:Nat→Bool) (a0:Act) (Q:Out→Prop):Exit→Act→World→Prop
 | .normal,a,w=>∃ s,Ok X p a0 s a w∧Q (.norm s)
 | .exit i,a,w=>∃ s,Ok X p a0 s a w∧Q (.exit i s)
 | .ret,a,w=>∃ s,Ok X p a0 s a w∧Q (.ret s)
 | _,_,_=>False
theorem Kept.trans {a a' a'':Act} (h:Kept p a a') (h':Kept p a' a''):Kept p a a'':=⟨h'.1.trans h.1,h'.2.1.trans h.2.1,fun k hk=>(h'.2.2 k hk).trans (h.2.2 k hk)⟩
theorem Ok.noT {s:St} {a:Act} {w:World} (h:Ok X p a0 s a w):NoT s:=fun _ r hr=>by
 cases ht:isTemp r with
 | false=>rfl
 | true=>
  obtain ⟨_,_,_,_,h⟩:=h.1.1 r hr ht
  exact h.elim
theorem region_sound (hT:TOk X.P T) (hC:Sound X.P C) (hm:X.P.follows .mixedOrders=true) {id:Nat} {ops:Array Oper} {draw:Bool} {s:St} {a:Act} {w:World} {Q:Out→Prop} (hd:dstOps p a0.tmps.size ops=true)
  (h:aops T M C ops ops.toList 0 s [] (fun s' l=>(draw=true→indep ops l=true)∧Q (.norm (finish c s')))) (hs:Ok X p a0 s a w):(Code.region id ops draw).wp X.P (QW X p a0 Q) a w:=by
 have hd':∀ o ∈ ops.toList,∀ d,o.dst=some d→d < a0.tmps.size∧p d=false:=by
  intro o ho d hdd
  simp only [dstOps,List.all_eq_true] at hd
  have:=hd o ho
  rw [hdd] at this
  simpa using this
 have h':=aops_noT _ _ _ _ hs.noT h
 obtain ⟨hs1,hs2⟩:=hs
 cases draw with
 | false=>
  refine wp_region_list ?_
  refine aops_plain (a:=a) hT hC (fun s l a' w' hq hs' h1 => ?_) ops.toList 0 s [] a w h' (hs1.mono fun _ h=>h.elim) Kept.refl (by rw [hs2.1];exact hd')
  exact ⟨finish c s,⟨hs'.finish hq.2,hs2.trans h1⟩,hq.1.2⟩
 | true=>
  obtain ⟨sts,s',l',ht,hq⟩:=aops_trace _ _ _ _ h'
  have ho:=ord_of ht (hq.1.1 rfl)
  refine wp_region_any hm ?_
  have hnone:∀ j,¬ Listed (Array.replicate ops.size false) j:=fun j hj=>by
   simp only [Listed,Array.getD_eq_getD_getElem?,Array.getElem?_replicate] at hj
   split at hj<;>simp at hj
  refine aops_drawn hT hC ht ho hd' (fun a' w' hs' h1=>⟨finish c s',⟨hs'.finish hq.2,h1⟩,hq.1.2⟩) ops.size (Array.replicate ops.size false) a _ (by simp) (fun j o hj=>absurd hj (hnone j)) ?_ ?_ hs2
  ·exact Nat.le_trans List.countP_le_length (by simp)
  ·rw [runD_none (fun x _=>hnone x.i)]
   obtain ⟨hl,hS,ρ,Fr,m,htm⟩:=hs1
   exact ⟨fun r hr=>(hl r hr).mono fun _ h=>h.elim,hS,ρ,Fr,Mem.step (fun _=>False) m (fun _ _ _=>rfl) rfl rfl rfl (Nat.le_refl _) (fun _ _ _ => .inl rfl) (fun r _=>⟨rfl,rfl,rfl⟩) (fun _ _ _ _ _ _=>rfl) (fun _ _ h=>h.elim) (fun _ _ _ h=>h.elim) (fun _ _ _ _ _ h=>h.elim)
    (fun r x q _ _ _=>Compat.still rfl rfl (fun _ _ _=>rfl)),fun k v hk=>⟨(htm k v hk).1,VR.upd (w:=w) (h:=s.h) (ρ:=ρ) (fun _ _ _=>rfl) (fun r _=>Compat.still rfl rfl (fun _ _ _=>rfl)) (htm k v hk).2⟩⟩
theorem look_del_sub {k q:Nat} {t:List (Nat × AV)}:look k (del q t)=look k t∨look k (del q t)=none:=by
 rw [look_del]
 split
 ·exact .inr rfl
 ·exact .inl rfl
theorem Ok.test {s:St} {a:Act} {w:World} {x:Operand} (h:Ok X p a0 s a w):Ok X p a0 (behindTest c x s) a w:=by
 refine ⟨?_,h.2⟩
 unfold behindTest
 split
 ·split
  ·exact h.1
  ·exact h.1.sub (fun k=>look_del_sub) (fun r => .inl rfl)
 ·exact h.1
theorem Sim.homes {D:Nat→Prop} {a:Act} {w:World}:∀ {l:List (Rid × Rid)} {s:St},Sim X D s a w→Sim X D (Go.Fw.homes l s) a w
 | [],s,h=>h
 |(p,q) :: l,s,h=>by
  unfold Go.Fw.homes
  apply Sim.homes
  split
  ·exact h
  ·rename_i hq
   exact h.rename (fun e=>absurd e hq)
theorem Ok.behind {s:St} {a:Act} {w:World} {id:Nat} (h:Ok X p a0 s a w):Ok X p a0 (behind c id s) a w:=by
 refine ⟨?_,h.2⟩
 unfold Go.Fw.behind
 split
 ·unfold keepOnly
  have h1 : Sim X (fun _ => False) { s with t := keepT (fun k => memR k ‹_›) s.t } a w := h.1.sub (fun k => look_keepT) (fun r => .inl rfl)
  exact Sim.homes h1.gc
 ·exact h.1
theorem awp_sound (hT:TOk X.P T) (hC:Sound X.P C) (hm:X.P.follows .mixedOrders=true):∀ {code:Code} {s:St} {a:Act} {w:World} {Q:Out→Prop},dstOK p a0.tmps.size code=true→awp T M C c code s Q→Ok X p a0 s a w→code.wp X.P (QW X p a0 Q) a w:=by
 intro code
 induction code with
 | skip=>intro s a w Q _ h hs;exact wp_skip ⟨s,hs,h⟩
 | region id ops draw=>intro s a w Q hd h hs;exact region_sound hT hC hm hd h hs
 | seq x y ihx ihy=>
  intro s a w Q hd h hs
  simp only [dstOK,Bool.and_eq_true] at hd
  refine wp_seq (wp_mono (ihx hd.1 h hs) (fun e a w hq => ?_))
  cases e<;>simp only [QW,Exit.then] at hq ⊢
  ·obtain ⟨s',h1,h2⟩:=hq
   exact ihy hd.2 h2 h1
  all_goals first | exact hq | exact hq.elim
 | cond x y z ihy ihz=>
  intro s a w Q hd h hs
  simp only [dstOK,Bool.and_eq_true] at hd
  simp only [awp] at h
  split at h
  ·rename_i t hx
   have hb:a.eval x = .bool t:=by
    obtain ⟨-,-,ρ,Fr,m,ht⟩:=hs.1
    exact (ev_sound ht hx).bool_inv
   exact wp_cond_split hb (fun e=>ihy hd.1 (h.1 e) hs.test) (fun e=>ihz hd.2 (h.2 e) hs.test)
  ·exact h.elim
 | block id b ih=>
  intro s a w Q hd h hs
  refine wp_block (wp_mono (ih hd h hs) (fun e a w hq => ?_))
  cases e<;>simp only [QW,Exit.inBlock] at hq ⊢
  ·obtain ⟨s',h1,h2⟩:=hq
   exact ⟨_,h1.behind,h2⟩
  ·obtain ⟨s',h1,h2⟩:=hq
   split at h2
   ·rename_i e
    rw [if_pos e]
    exact ⟨_,h1.behind,h2⟩
   ·rename_i e
    rw [if_neg e]
    exact ⟨s',h1,h2⟩
  all_goals first | exact hq | exact hq.elim
 | loop b ih=>
  intro s a w Q hd h hs
  obtain ⟨k,h⟩:=h
  refine wp_loop_rounds k ?_
  induction k generalizing s a w with
  | zero=>exact h.elim
  | succ k ihk=>
   rw [rounds_succ]
   refine wp_mono (ih hd h hs) (fun e a w hq => ?_)
   cases e<;>simp only [QW,Exit.then] at hq ⊢
   ·obtain ⟨s',h1,h2⟩:=hq
    exact ihk h1 h2
   all_goals first | exact hq | exact hq.elim
 | exit id=>intro s a w Q _ h hs;exact wp_exit ⟨s,hs,h⟩
 | ret=>intro s a w Q _ h hs;exact wp_ret ⟨s,hs,h⟩
 | _=>intro s a w Q _ h hs;simp only [awp] at h
end

section
variable {X:Fix} {w:World} {h0:Heap} {ρ:Rho} {Fr:Rid→Nat→Prop}
def Taken (Fr:Rid→Nat→Prop) (h h':Heap) (b:Nat):Prop:=∃ r x,look r h=some x∧look r h'=none∧Fr r b
def Own0 (X:Fix) (b:Nat):Prop:=X.w0.heap.size≤b∨∀ k,X.Chg b k
def Under (h' h:Heap):Prop:=∀ r x,look r h'=some x→look r h=some x
theorem Under.refl {h:Heap}:Under h h:=fun _ _ e=>e
theorem Under.trans {h h' h'':Heap} (a:Under h'' h') (b:Under h' h):Under h'' h:=fun r x e=>b r x (a r x e)
theorem Under.del {h:Heap} {r:Rid}:Under (del r h) h:=fun q x e=>by
 rw [look_del] at e
 split at e
 ·cases e
 ·exact e
theorem Under.none {h h':Heap} (a:Under h' h) {r:Rid} (e:look r h=none):look r h'=none:=by
 cases hl:look r h' with
 | none=>rfl
 | some x=>rw [a r x hl] at e;cases e
theorem Taken.mono_left {h h1 h':Heap} (a:Under h1 h) {b:Nat} (t:Taken Fr h1 h' b):Taken Fr h h' b:=by
 obtain ⟨r,x,e1,e2,e3⟩:=t
 exact ⟨r,x,a r x e1,e2,e3⟩
theorem Taken.mono_right {h h1 h':Heap} (a:Under h' h1) {b:Nat} (t:Taken Fr h h1 b):Taken Fr h h' b:=by
 obtain ⟨r,x,e1,e2,e3⟩:=t
 exact ⟨r,x,e1,a.none e2,e3⟩
theorem Taken.apart (m:Mem X h0 ρ Fr w) {h h1 h2 h3:Heap} (a0:Under h h0) (a2:Under h2 h1) (b2:Under h2 h0) {b:Nat} (t:Taken Fr h h1 b) (t':Taken Fr h2 h3 b):False:=by
 obtain ⟨r,x,e1,e2,e3⟩:=t
 obtain ⟨r',x',e1',e2',e3'⟩:=t'
 have:=m.disj r x r' x' b (a0 r x e1) (b2 r' x' e1') e3 e3'
 subst this
 rw [a2.none e2] at e1'
 cases e1'
theorem row_left (m:Mem X h0 ρ Fr w) {h:Heap} (hb:Under h h0) {S:Nat→Prop} {r:Rid} {sz sz' n:Nat} {nl:Option Bool} {xs:List (List AV)} {dt:List Nat} {v:Value}
  (hv:VA w S h0 ρ (.ref r none sz 0 n nl) v) (hl:look r h=some (.row sz' xs dt)) (hn:xs.length=n) :
  sz'=sz∧OC w (fun b=>Fr r b∧Own0 X b) (.row sz' xs) v:=by
 have hl0:=hb r _ hl
 cases hv with
 | fv hf=>cases hf
 | ref h1 h2 h3=>
  obtain ⟨rfl,-,bc,k1,k2⟩:=h1 sz' xs (by simp [getRow,hl0,subRow])
  refine ⟨rfl,?_⟩
  have hbc:bc=ρ r:=by
   unfold refAt at k1
   rw [hl0] at k1
   exact k1
  subst hbc
  obtain ⟨A,cap,rfl,k3,-⟩:=k2
  obtain ⟨rfl,rfl⟩:=k3 rfl
  rcases m.root r _ hl0 with ⟨g,k4,k5,k6⟩ | ⟨k4,rfl⟩
  ·rw [k4]
   simp only [addrOf,Option.map_some]
   rw [hn] at k5
   have k7:=k5.bound
   -- blocks within the root are free
   exact k5.mono fun b hb=>⟨hb,k6 b hb⟩
  ·rw [k4]
   simp at hn
   subst hn
   exact .nil _
theorem FV.resR1 {S F:Nat→Prop} {a:AV} {v:Value} (hf:FV w S a v):ResR1 w S F a v:=by
 cases hf with
 | agg hn hc=>
  refine ⟨_,rfl,hn,fun _ _=>False,fun _ _ h=>h.elim,fun _ _ _ h=>h.elim,fun k a hk => ?_⟩
  have hlt:=lt_len hk
  rw [←hn] at hlt
  have hv:=Array.getElem?_eq_getElem hlt
  refine .fv ?_
  have:∀ vs:Array Value,∀ hlt:k < vs.size,vs.getD k Go.undef=vs[k]:=fun vs hlt=>by simp [hlt]
  simp only [this _ hlt]
  exact hc k a _ hk hv
 | _=>constructor<;>assumption
theorem leaveCell_sound (m:Mem X h0 ρ Fr w) {a d:AV} {h h':Heap} {v:Value} (hb:Under h h0) (hl:leaveCell h a=some (d,h')) (ha:VB w X.S h0 ρ a v) :
  Under h' h∧CellR w X.S (fun b=>Taken Fr h h' b∧Own0 X b) d v:=by
 unfold leaveCell at hl
 split at hl
 ·rename_i r sz n nl
  split at hl
  ·rename_i sz' xs dt hlk
   split at hl
   ·rename_i hc
    obtain ⟨rfl,rfl⟩:=hc
    simp only [Option.some.injEq,Prod.mk.injEq] at hl
    obtain ⟨rfl,rfl⟩:=hl
    have hva:VA w X.S h0 ρ (.ref r none sz' 0 xs.length nl) v:=by
     cases ha with
     | up ha=>exact ha
    obtain ⟨-,ho⟩:=row_left m hb hva hlk rfl
    refine ⟨.del, .row (ho.mono fun b hb'=>⟨⟨r,_,hlk,?_,hb'.1⟩,hb'.2⟩)⟩
    rw [look_del]
    simp
   ·cases hl
  ·cases hl
 case h_9=>
  simp only [Option.some.injEq,Prod.mk.injEq] at hl
  obtain ⟨rfl,rfl⟩:=hl
  refine ⟨.refl, .fv ?_⟩
  cases ha with
  | up ha=>cases ha with | fv hf=>exact hf
  | fn hn hc=>exact .fn hn (fun k a v h1 h2=>by simp at h1)
 case h_10=>cases hl
 all_goals
  simp only [Option.some.injEq,Prod.mk.injEq] at hl
  obtain ⟨rfl,rfl⟩:=hl
  refine ⟨.refl, .fv ?_⟩
  cases ha with
  | up ha=>cases ha with | fv hf=>exact hf
theorem leaveCells_sound (m:Mem X h0 ρ Fr w):∀ {cs ds:List AV} {h h':Heap} {f:Nat→Value},Under h h0→leaveCells h cs=some (ds,h')→(∀ (k:Nat) (a:AV),cs[k]? = some a→VB w X.S h0 ρ a (f k))→
  ds.length=cs.length∧Under h' h∧CellsR w X.S (fun b=>Taken Fr h h' b∧Own0 X b) ds f
 | [],ds,h,h',f,hb,hl,hf=>by
  simp only [leaveCells,Option.some.injEq,Prod.mk.injEq] at hl
  obtain ⟨rfl,rfl⟩:=hl
  exact ⟨rfl, .refl,fun _ _=>False,by simp,by simp,by simp⟩
 | a :: cs,ds,h,h',f,hb,hl,hf=>by
  simp only [leaveCells] at hl
  split at hl
  rotate_left
  ·cases hl
  rename_i d h1 hd
  split at hl
  rotate_left
  ·cases hl
  rename_i ds' h2 hl1
  simp only [Option.some.injEq,Prod.mk.injEq] at hl
  obtain ⟨rfl,rfl⟩:=hl
  obtain ⟨hb1,hd⟩:=leaveCell_sound m hb hd (hf 0 a rfl)
  obtain ⟨g1,g2,Fs,g3,g4,g5⟩:=leaveCells_sound m (f:=fun k=>f (k + 1)) (hb1.trans hb) hl1 (fun k a hk=>hf (k + 1) a (by simpa using hk))
  refine ⟨by simp [g1],g2.trans hb1,fun k b=>match k with | 0=>Taken Fr h h1 b∧Own0 X b | k + 1=>Fs k b,?_,?_,?_⟩
  ·intro k b hk
   cases k with
   | zero=>exact ⟨hk.1.mono_right g2,hk.2⟩
   | succ k=>exact ⟨(g3 k b hk).1.mono_left hb1,(g3 k b hk).2⟩
  ·intro k k' b hk hk'
   cases k with
   | zero=>
    cases k' with
    | zero=>rfl
    | succ k'=>exact (hk.1.apart m hb .refl (hb1.trans hb) (g3 k' b hk').1).elim
   | succ k=>
    cases k' with
    | zero=>exact (hk'.1.apart m hb .refl (hb1.trans hb) (g3 k b hk).1).elim
    | succ k'=>rw [g4 k k' b hk hk']
  ·intro k c hk
   cases k with
   | zero=>
    simp at hk
    subst hk
    exact hd
   | succ k=>exact g5 k c (by simpa using hk)
theorem CellR.resR1 {S F:Nat→Prop} {a:AV} {v:Value} (hc:CellR w S F a v):ResR1 w S F a v:=by
 cases hc with
 | fv h=>exact h.resR1
 | row h=>exact h
theorem leave1_sound (m:Mem X h0 ρ Fr w) {a d:AV} {h h':Heap} {v:Value} (hb:Under h h0) (hl:leave1 h a=some (d,h')) (ha:VR w X.S h0 ρ a v) :
  Under h' h∧ResR1 w X.S (fun b=>Taken Fr h h' b∧Own0 X b) d v:=by
 unfold leave1 at hl
 split at hl
 ·rename_i cs
  split at hl
  ·rename_i ds h1 hl1
   simp only [Option.some.injEq,Prod.mk.injEq] at hl
   obtain ⟨rfl,rfl⟩:=hl
   obtain ⟨vs,rfl,g1,g2⟩:=ha.agg_inv
   obtain ⟨g3,g4,g5⟩:=leaveCells_sound m (f:=fun k=>vs.getD k Go.undef) hb hl1 (fun k a hk=>by
    have hlt:=lt_len hk
    rw [←g1] at hlt
    have:vs.getD k Go.undef=vs[k]:=by simp [hlt]
    rw [this]
    exact .up (g2 k a _ hk (Array.getElem?_eq_getElem hlt)))
   exact ⟨g4,vs,rfl,by rw [g1,g3],g5⟩
  ·cases hl
 ·have hb':VB w X.S h0 ρ a v:=ha.to_vb (fun cs e=>by subst e;simp [leaveCell] at hl)
  obtain ⟨g1,g2⟩:=leaveCell_sound m hb hl hb'
  exact ⟨g1,g2.resR1⟩
theorem leaveList_sound (m:Mem X h0 ρ Fr w):∀ {cs ds:List AV} {h h':Heap} {f:Nat→Value},Under h h0→leaveList h cs=some (ds,h')→(∀ (k:Nat) (a:AV),cs[k]? = some a→VR w X.S h0 ρ a (f k))→
  ds.length=cs.length∧Under h' h∧∃ Fs:Nat→Nat→Prop,(∀ k b,Fs k b→Taken Fr h h' b∧Own0 X b)∧(∀ k k' b,Fs k b→Fs k' b→k=k')∧∀ (k:Nat) (a:AV),ds[k]? = some a→ResR1 w X.S (Fs k) a (f k)
 | [],ds,h,h',f,hb,hl,hf=>by
  simp only [leaveList,Option.some.injEq,Prod.mk.injEq] at hl
  obtain ⟨rfl,rfl⟩:=hl
  exact ⟨rfl, .refl,fun _ _=>False,by simp,by simp,by simp⟩
 | a :: cs,ds,h,h',f,hb,hl,hf=>by
  simp only [leaveList] at hl
  split at hl
  rotate_left
  ·cases hl
  rename_i d h1 hd
  split at hl
  rotate_left
  ·cases hl
  rename_i ds' h2 hl1
  simp only [Option.some.injEq,Prod.mk.injEq] at hl
  obtain ⟨rfl,rfl⟩:=hl
  obtain ⟨hb1,hd⟩:=leave1_sound m hb hd (hf 0 a rfl)
  obtain ⟨g1,g2,Fs,g3,g4,g5⟩:=leaveList_sound m (f:=fun k=>f (k + 1)) (hb1.trans hb) hl1 (fun k a hk=>hf (k + 1) a (by simpa using hk))
  refine ⟨by simp [g1],g2.trans hb1,fun k b=>match k with | 0=>Taken Fr h h1 b∧Own0 X b | k + 1=>Fs k b,?_,?_,?_⟩
  ·intro k b hk
   cases k with
   | zero=>exact ⟨hk.1.mono_right g2,hk.2⟩
   | succ k=>exact ⟨(g3 k b hk).1.mono_left hb1,(g3 k b hk).2⟩
  ·intro k k' b hk hk'
   cases k with
   | zero=>
    cases k' with
    | zero=>rfl
    | succ k'=>exact (hk.1.apart m hb .refl (hb1.trans hb) (g3 k' b hk').1).elim
   | succ k=>
    cases k' with
    | zero=>exact (hk'.1.apart m hb .refl (hb1.trans hb) (g3 k b hk).1).elim
    | succ k'=>rw [g4 k k' b hk hk']
  ·intro k c hk
   cases k with
   | zero=>
    simp at hk
    subst hk
    exact hd
   | succ k=>exact g5 k c (by simpa using hk)
theorem outCells_sound (m:Mem X h0 ρ Fr w):∀ {cs ds os:List AV} {h h':Heap} {f:Nat→Value},Under h h0→outCells h cs ds=(os,h')→(∀ (k:Nat) (a:AV),ds[k]? = some a→VR w X.S h0 ρ a (f k))→
  Under h' h∧∃ Fs:Nat→Nat→Prop,(∀ k b,Fs k b→Taken Fr h h' b∧Own0 X b)∧(∀ k k' b,Fs k b→Fs k' b→k=k')∧∀ (k sz:Nat) (xs:List (List AV)),os[k]? = some (.row sz xs)→OC w (Fs k) (.row sz xs) (f k)
 | [],ds,os,h,h',f,hb,hl,hf=>by
  have:(os,h')=(([]:List AV),h):=by rw [←hl];cases ds<;>rfl
  injection this with e1 e2
  subst e1 e2
  exact ⟨.refl,fun _ _=>False,by simp,by simp,by simp⟩
 | c :: cs,[],os,h,h',f,hb,hl,hf=>by
  have:(os,h')=((c :: cs).map fun _=>AV.unk,h):=by rw [←hl];cases c<;>rfl
  injection this with e1 e2
  subst e1 e2
  refine ⟨.refl,fun _ _=>False,by simp,by simp,fun k sz xs hk => ?_⟩
  rw [List.getElem?_map] at hk
  cases hc:(c :: cs)[k]? with
  | none=>rw [hc] at hk;cases hk
  | some z=>rw [hc] at hk;simp at hk
 | c :: cs,d :: ds,os,h,h',f,hb,hl,hf=>by
  have hf':∀ (k:Nat) (a:AV),ds[k]? = some a→VR w X.S h0 ρ a (f (k + 1)):=fun k a hk=>hf (k + 1) a (by simpa using hk)
  have hskip:∀ {os' h''},outCells h cs ds=(os',h'')→os = .unk :: os'→h'=h''→Under h' h∧∃ Fs:Nat→Nat→Prop,(∀ k b,Fs k b→Taken Fr h h' b∧Own0 X b)∧(∀ k k' b,Fs k b→Fs k' b→k=k')∧∀ (k sz:Nat) (xs:List (List AV)),os[k]? = some (.row sz xs)→OC w (Fs k) (.row sz xs) (f k):=by
   intro os' h'' h1 e1 e2
   subst e1 e2
   obtain ⟨g1,Fs,g2,g3,g4⟩:=outCells_sound m (f:=fun k=>f (k + 1)) hb h1 hf'
   refine ⟨g1,fun k b=>match k with | 0=>False | k + 1=>Fs k b,?_,?_,?_⟩
   ·intro k b hk
    cases k with
    | zero=>exact hk.elim
    | succ k=>exact g2 k b hk
   ·intro k k' b hk hk'
    cases k with
    | zero=>exact hk.elim
    | succ k=>cases k' with
     | zero=>exact hk'.elim
     | succ k'=>rw [g3 k k' b hk hk']
   ·intro k sz xs hk
    cases k with
    | zero=>simp at hk
    | succ k=>exact g4 k sz xs (by simpa using hk)
  have hplain:∀ {os' h''},outCells h cs ds=(os',h'')→(AV.unk :: os',h'')=(os,h')→Under h' h∧∃ Fs:Nat→Nat→Prop,(∀ k b,Fs k b→Taken Fr h h' b∧Own0 X b)∧(∀ k k' b,Fs k b→Fs k' b→k=k')∧∀ (k sz:Nat) (xs:List (List AV)),os[k]? = some (.row sz xs)→OC w (Fs k) (.row sz xs) (f k):=by
   intro os' h'' h1 e
   injection e with e1 e2
   exact hskip h1 e1.symm e2.symm
  generalize hoc:outCells h cs ds=oc
  obtain ⟨os0,h1⟩:=oc
  by_cases hc:∃ sz0 xs0 r szs n nl,c = .row sz0 xs0∧d = .ref r none szs 0 n nl
  ·obtain ⟨sz0,xs0,r,szs,n,nl,rfl,rfl⟩:=hc
   simp only [outCells] at hl
   split at hl
   ·rename_i sz xs dt hlk
    split at hl
    ·rename_i hn
     generalize hoc2:outCells (del r h) cs ds=oc2 at hl
     obtain ⟨os2,h2⟩:=oc2
     injection hl with e1 e2
     subst e1 e2
     obtain ⟨g1,Fs,g2,g3,g4⟩:=outCells_sound m (f:=fun k=>f (k + 1)) (Under.del.trans hb) hoc2 hf'
     obtain ⟨-,ho⟩:=row_left m hb (hf 0 _ rfl).ref_inv hlk hn
     have hnone:look r (del r h)=none:=by rw [look_del];simp
     have htk:∀ b,Fr r b→Taken Fr h (del r h) b:=fun b hb'=>⟨r,_,hlk,hnone,hb'⟩
     refine ⟨g1.trans .del,fun k b=>match k with | 0=>Fr r b∧Own0 X b | k + 1=>Fs k b,?_,?_,?_⟩
     ·intro k b hk
      cases k with
      | zero=>exact ⟨(htk b hk.1).mono_right g1,hk.2⟩
      | succ k=>exact ⟨(g2 k b hk).1.mono_left .del,(g2 k b hk).2⟩
     ·intro k k' b hk hk'
      cases k with
      | zero=>cases k' with
       | zero=>rfl
       | succ k'=>exact ((htk b hk.1).apart m hb .refl (Under.del.trans hb) (g2 k' b hk').1).elim
      | succ k=>cases k' with
       | zero=>exact ((htk b hk'.1).apart m hb .refl (Under.del.trans hb) (g2 k b hk).1).elim
       | succ k'=>rw [g3 k k' b hk hk']
     ·intro k sz' xs' hk
      cases k with
      | zero=>
       simp only [List.getElem?_cons_zero,Option.some.injEq,AV.row.injEq] at hk
       obtain ⟨rfl,rfl⟩:=hk
       exact ho
      | succ k=>exact g4 k sz' xs' (by simpa using hk)
    ·rw [hoc] at hl
     exact hplain hoc hl
   ·rw [hoc] at hl
    exact hplain hoc hl
  ·have:outCells h (c :: cs) (d :: ds)=(.unk :: os0,h1):=by
    cases c with
    | row sz0 xs0=>
     cases d with
     | ref r p szs off n nl=>
      cases p with
      | none=>
       cases off with
       | zero=>exact absurd ⟨_,_,_,_,_,_,rfl,rfl⟩ hc
       | succ q=>simp [outCells,hoc]
      | some q=>simp [outCells,hoc]
     | _=>simp [outCells,hoc]
    | _=>simp [outCells,hoc]
   rw [this] at hl
   exact hplain hoc hl
def Lead (k:Nat) (u:Value) (b:Nat):Prop:=∃ o,u = .pointer (some ⟨b,o,none⟩)
theorem out1_sound (m:Mem X h0 ρ Fr w) {t:List (Nat × AV)} {a d:AV} {h h':Heap} {k:Nat} {v:Value} (hb:Under h h0) (hl:out1 t h k a=(d,h')) (hv:((∃ sz xs,a = .row sz xs)∨(∃ cs,a = .wptr cs)∨∃ cs,a = .agg cs∧cs.any isRow=true)→∀ x,look k t=some x→VR w X.S h0 ρ x v) :
  Under h' h∧OutR w X.S (fun b=>Taken Fr h h' b∧(Own0 X b∨(Lead k v b∧∃ cs,a = .wptr cs))) d v:=by
 have hunk:∀ {d h'},(AV.unk,h)=(d,h')→Under h' h∧OutR w X.S (fun b=>Taken Fr h h' b∧(Own0 X b∨(Lead k v b∧∃ cs,a = .wptr cs))) d v:=by
  intro d h' e
  injection e with e1 e2
  subst e1 e2
  exact ⟨.refl,trivial⟩
 unfold out1 at hl
 split at hl
 ·-- a row
  split at hl
  rotate_left
  ·exact hunk hl
  rename_i r sz0 n nl hk
  split at hl
  rotate_left
  ·exact hunk hl
  split at hl
  rotate_left
  ·exact hunk hl
  rename_i sz xs dt hlk
  split at hl
  rotate_left
  ·exact hunk hl
  rename_i hn
  injection hl with e1 e2
  subst e1 e2
  obtain ⟨-,ho⟩:=row_left m hb (hv (.inl ⟨_,_,rfl⟩) _ hk).ref_inv hlk hn
  refine ⟨.del,ho.mono fun b hb'=>⟨⟨r,_,hlk,?_,hb'.1⟩, .inl hb'.2⟩⟩
  rw [look_del]
  simp
 ·-- a variable
  split at hl
  rotate_left
  ·exact hunk hl
  rename_i r hk
  split at hl
  rotate_left
  ·exact hunk hl
  split at hl
  rotate_left
  ·exact hunk hl
  rename_i cs hlk
  split at hl
  rotate_left
  ·exact hunk hl
  rename_i ds h1 hl1
  injection hl with e1 e2
  subst e1 e2
  have hl0:=hb r _ hlk
  obtain ⟨g,vs,ty,fr,k1,k2,k3,k4,k5,k6,k7,k8⟩:=m.root r _ hl0
  have hptr:=(hv (.inr (.inl ⟨_,rfl⟩)) _ hk).ptr_inv
  cases hptr with
  | fv hf=>cases hf
  | ptr p1 p2=>
  obtain ⟨g',o,q1,rfl⟩:=p1 cs (by simp [getChunk,hl0])
  unfold ptrAt at q1
  rw [hl0] at q1
  obtain ⟨-,-,q1⟩:=q1
  rw [q1] at k1 k4 k8
  simp only [Option.some.injEq] at k1
  subst k1
  obtain ⟨g3,g4,Fs,g5,g6,g7⟩:=leaveCells_sound m (f:=fun k=>vs.getD (o + k) Go.undef) (Under.del.trans hb) hl1 (fun k a hk=>by
   obtain ⟨v,r1,r2⟩:=k8 k a hk
   have:vs.getD (o + k) Go.undef=v:=by simp [r1]
   rw [this]
   exact r2)
  have hnone:look r (del r h)=none:=by rw [look_del];simp
  refine ⟨g4.trans .del,g',o,by simp,vs,ty,fr,k2,k3,by rw [g3];exact k4,⟨⟨r,_,hlk,g4.none hnone,k5⟩, .inr ⟨⟨o,by simp⟩,_,rfl⟩⟩,Fs,fun k b hk => ?_,g6,g7⟩
  obtain ⟨t1,t2⟩:=g5 k b hk
  refine ⟨⟨t1.mono_left .del, .inl t2⟩,fun e => ?_⟩
  subst e
  obtain ⟨r',x',e1,e2,e3⟩:=t1
  have hrr:=m.disj r' x' r _ b (hb r' x' (Under.del r' x' e1)) hl0 e3 k5
  subst hrr
  rw [hnone] at e1
  cases e1
 ·-- a struct
  rename_i cs
  split at hl
  rotate_left
  ·exact hunk hl
  rename_i hrow
  split at hl
  rotate_left
  ·exact hunk hl
  rename_i ds hk
  generalize hoc:outCells h cs ds=oc at hl
  obtain ⟨os,h1⟩:=oc
  injection hl with e1 e2
  subst e1 e2
  obtain ⟨vs,rfl,v1,v2⟩:=(hv (.inr (.inr ⟨_,rfl,hrow⟩)) _ hk).agg_inv
  obtain ⟨g1,Fs,g2,g3,g4⟩:=outCells_sound m (f:=fun k=>vs.getD k Go.undef) hb hoc (fun k a hk=>by
   have hlt:=lt_len hk
   rw [←v1] at hlt
   have:vs.getD k Go.undef=vs[k]:=by simp [hlt]
   rw [this]
   exact .up (.up (v2 k a _ hk (Array.getElem?_eq_getElem hlt))))
  exact ⟨g1,vs,rfl,Fs,fun k b hb=>⟨(g2 k b hb).1, .inl (g2 k b hb).2⟩,g3,g4⟩
 ·exact hunk hl
theorem outs_sound' (m:Mem X h0 ρ Fr w) {t:List (Nat × AV)} {p:List Nat} {f:Nat→Value}:∀ {as:List AV} {h:Heap} {k:Nat},Under h h0→(∀ (j:Nat),(∀ sz xs,as[j]? = some (.row sz xs)→memR (k + j) p=true)∧(∀ cs,as[j]? = some (.wptr cs)→memR (k + j) p=true∧cs.length < 63)∧∀ cs,as[j]? = some (.agg cs)→cs.any isRow=true→memR (k + j) p=true∧cs.length < 63)→(∀ j x,j < as.length→memR (k + j) p=true→look (k + j) t=some x→VR w X.S h0 ρ x (f (k + j)))→
  ∃ Gs:Nat→Nat→Prop,(∀ j b,Gs j b→((∃ h1 h2,Under h1 h∧Under h2 h1∧Taken Fr h1 h2 b)∧(Own0 X b∨(Lead (k + j) (f (k + j)) b∧∃ cs,as[j]? = some (.wptr cs)))))∧(∀ j j' b,Gs j b→Gs j' b→j=j')∧
   ∀ (j:Nat) (o:AV),(outs t h k as)[j]? = some o→OutR w X.S (Gs j) o (f (k + j))
 | [],h,k,hb,hat,hf=>⟨fun _ _=>False,by simp,by simp,by simp [outs]⟩
 | a :: as,h,k,hb,hat,hf=>by
  generalize ho:out1 t h k a=oh
  obtain ⟨d,h1⟩:=oh
  obtain ⟨b1,r1⟩:=out1_sound m hb ho (fun hw x hx=>hf 0 x (by simp) (by
   rcases hw with ⟨sz,xs,rfl⟩ | ⟨cs,rfl⟩ | ⟨cs,rfl,hr⟩
   ·exact (hat 0).1 sz xs rfl
   ·exact ((hat 0).2.1 cs rfl).1
   ·exact ((hat 0).2.2 cs rfl hr).1) hx)
  obtain ⟨Gs,g1,g2,g3⟩:=outs_sound' m (t:=t) (p:=p) (f:=f) (as:=as) (k:=k + 1) (b1.trans hb) (fun j=>by
   have:=hat (j + 1)
   rw [show k + (j + 1)=k + 1 + j by omega] at this
   simpa using this) (fun j x hj hp hx=>by
   have:=hf (j + 1) x (by simp;omega) (by rw [show k + (j + 1)=k + 1 + j by omega];exact hp) (by rw [show k + (j + 1)=k + 1 + j by omega];exact hx)
   rw [show k + (j + 1)=k + 1 + j by omega] at this
   exact this)
  have hap:∀ j b,Taken Fr h h1 b→Gs j b→False:=by
   intro j b t1 t2
   obtain ⟨⟨h2,h3,c1,c2,c3⟩,-⟩:=g1 j b t2
   exact t1.apart m hb c1 ((c1.trans b1).trans hb) c3
  refine ⟨fun j b=>match j with | 0=>Taken Fr h h1 b∧(Own0 X b∨(Lead k (f k) b∧∃ cs,a = .wptr cs)) | j + 1=>Gs j b,?_,?_,?_⟩
  ·intro j b hj
   cases j with
   | zero=>exact ⟨⟨h,h1, .refl,b1,hj.1⟩,by simpa using hj.2⟩
   | succ j=>
    obtain ⟨⟨h2,h3,c1,c2,c3⟩,c4⟩:=g1 j b hj
    refine ⟨⟨h2,h3,c1.trans b1,c2,c3⟩,?_⟩
    rw [show k + (j + 1)=k + 1 + j by omega]
    simpa using c4
  ·intro j j' b hj hj'
   cases j with
   | zero=>
    cases j' with
    | zero=>rfl
    | succ j'=>exact (hap j' b hj.1 hj').elim
   | succ j=>
    cases j' with
    | zero=>exact (hap j b hj'.1 hj).elim
    | succ j'=>rw [g2 j j' b hj hj']
  ·intro j o hj
   simp only [outs,ho] at hj
   cases j with
   | zero=>
    simp at hj
    subst hj
    exact r1
   | succ j=>
    have:=g3 j o (by simpa using hj)
    rw [show k + 1 + j=k + (j + 1) by omega] at this
    exact this
end

theorem rv_inj {k m k' m':Nat} (hm:m < 64) (hm':m' < 64) (h:rv k m=rv k' m'):k=k'∧m=m':=by
 have h':(2 * (64 * k + m):Nat)=2 * (64 * k' + m'):=h
 omega
theorem look_append {β:Type} {k:Nat}:∀ {l l':List (Nat × β)} {x:β},look k (l++l')=some x→look k l=some x∨look k l'=some x
 | [],l',x,h => .inr h
 |(q,v) :: l,l',x,h=>by
  simp only [List.cons_append,look] at h ⊢
  by_cases e:k=q
  ·rw [if_pos e] at h ⊢
   exact .inl h
  ·rw [if_neg e] at h ⊢
   exact look_append h
def inCell (k m:Nat):AV→AV
 | .row sz xs => .ref (rv k (m + 1)) none sz 0 xs.length none
 | a=>a
theorem enterCells_fst {k:Nat}:∀ {cs:List AV} {m:Nat},(enterCells k m cs).1.length=cs.length∧∀ (j:Nat),(enterCells k m cs).1[j]? = (cs[j]?).map (inCell k (m + j))
 | [],m=>by simp [enterCells]
 | a :: cs,m=>by
  obtain ⟨h1,h2⟩:=enterCells_fst (k:=k) (cs:=cs) (m:=m + 1)
  cases a
  case row sz xs=>
   refine ⟨by simp [enterCells,h1],fun j => ?_⟩
   cases j with
   | zero=>simp [enterCells,inCell]
   | succ j=>simp only [enterCells,List.getElem?_cons_succ];rw [h2 j,show m + 1 + j=m + (j + 1) by omega]
  all_goals
   refine ⟨by simp [enterCells,h1],fun j => ?_⟩
   cases j with
   | zero=>simp [enterCells,inCell]
   | succ j=>simp only [enterCells,List.getElem?_cons_succ];rw [h2 j,show m + 1 + j=m + (j + 1) by omega]
theorem enterCells_snd {k:Nat}:∀ {cs:List AV} {m:Nat} {r:Rid} {x:Root},look r (enterCells k m cs).2=some x→∃ j sz xs,cs[j]? = some (.row sz xs)∧r=rv k (m + j + 1)∧x = .row sz xs []
 | [],m,r,x,h=>by simp [enterCells,look] at h
 | a :: cs,m,r,x,h=>by
  have key:look r (enterCells k (m + 1) cs).2=some x→∃ j sz xs,(a :: cs)[j]? = some (.row sz xs)∧r=rv k (m + j + 1)∧x = .row sz xs []:=by
   intro h
   obtain ⟨j,sz,xs,h1,h2,h3⟩:=enterCells_snd h
   exact ⟨j + 1,sz,xs,by simpa using h1,by rw [h2];congr 1;omega,h3⟩
  cases a
  case row sz xs=>
   simp only [enterCells,look] at h
   split at h
   ·rename_i e
    injection h with h
    exact ⟨0,sz,xs,by simp,e,h.symm⟩
   ·exact key h
  all_goals
   simp only [enterCells] at h
   exact key h
theorem enter_look {r:Rid} {x:Root}:∀ {as:List AV} {k:Nat},look r (enter k as).2=some x→
  ∃ j,(∃ sz xs,as[j]? = some (.row sz xs)∧r=rv (k + j) 0∧x = .row sz xs [])∨
   (∃ cs,as[j]? = some (.wptr cs)∧((r=rv (k + j) 0∧x = .box (enterCells (k + j) 0 cs).1)∨∃ m sz xs,cs[m]? = some (.row sz xs)∧r=rv (k + j) (m + 1)∧x = .row sz xs []))∨
   ∃ cs,as[j]? = some (.agg cs)∧∃ m sz xs,cs[m]? = some (.row sz xs)∧r=rv (k + j) (m + 1)∧x = .row sz xs []
 | [],k,h=>by simp [enter,look] at h
 | a :: as,k,h=>by
  simp only [enter] at h
  rcases look_append h with h | h
  ·refine ⟨0,?_⟩
   cases a with
   | row sz xs=>
    simp only [enter1,look] at h
    split at h
    ·rename_i e
     injection h with h
     exact .inl ⟨sz,xs,rfl,e,h.symm⟩
    ·cases h
   | wptr cs=>
    simp only [enter1,look] at h
    split at h
    ·rename_i e
     injection h with h
     exact .inr (.inl ⟨cs,rfl, .inl ⟨e,h.symm⟩⟩)
    ·obtain ⟨j,sz,xs,h1,h2,h3⟩:=enterCells_snd h
     exact .inr (.inl ⟨cs,rfl, .inr ⟨j,sz,xs,h1,by rw [h2];congr 1;omega,h3⟩⟩)
   | agg cs=>
    simp only [enter1] at h
    obtain ⟨j,sz,xs,h1,h2,h3⟩:=enterCells_snd h
    exact .inr (.inr ⟨cs,rfl,j,sz,xs,h1,by rw [h2];congr 1;omega,h3⟩)
   | _=>simp [enter1,look] at h
  ·obtain ⟨j,h1⟩:=enter_look h
   refine ⟨j + 1,?_⟩
   have e:k + 1 + j=k + (j + 1):=by omega
   rw [e] at h1
   rcases h1 with ⟨sz,xs,h1,h2⟩ | ⟨cs,h1,h2⟩ | ⟨cs,h1,h2⟩
   ·exact .inl ⟨sz,xs,by simpa using h1,h2⟩
   ·exact .inr (.inl ⟨cs,by simpa using h1,h2⟩)
   ·exact .inr (.inr ⟨cs,by simpa using h1,h2⟩)
theorem enter_fst {k q:Nat} {x:AV}:∀ {as:List AV} {k:Nat},look q (enter k as).1=some x→∃ j a,q=k + j∧as[j]? = some a∧x=(enter1 q a).1
 | [],k,h=>by simp [enter,look] at h
 | a :: as,k,h=>by
  simp only [enter,look] at h
  split at h
  ·rename_i e
   injection h with h
   subst e
   exact ⟨0,a,rfl,rfl,h.symm⟩
  ·obtain ⟨j,b,h1,h2,h3⟩:=enter_fst (k:=k + 1) (as:=as) h
   exact ⟨j + 1,b,by omega,by simpa using h2,h3⟩

def hdrOf:Value→Option Nat × Nat
 | .slice A _ c=>(A.map (·.block),c)
 | .pointer (some A)=>(some A.block,A.off)
 | _=>(none,0)
def slotOf (r:Rid):Nat:=r / 2 / 64
def partOf (r:Rid):Nat:=r / 2 % 64
theorem slotOf_rv {k m:Nat} (hm:m < 64):slotOf (rv k m)=k:=by
 show (2 * (64 * k + m)) / 2 / 64=k
 omega
theorem partOf_rv {k m:Nat} (hm:m < 64):partOf (rv k m)=m:=by
 show (2 * (64 * k + m)) / 2 % 64=m
 omega
def cellAt (w:World) (v:Value) (m:Nat):Value:=match v with
 | .pointer (some A)=>(w.cell? ⟨A.block,A.off + m,none⟩).getD Go.undef
 | .agg vs=>vs.getD m Go.undef
 | _=>Go.undef
def rho0 (w:World) (vs:List Value):Rho:=fun r=>match partOf r with
 | 0=>hdrOf (vs.getD (slotOf r) Go.undef)
 | m + 1=>hdrOf (cellAt w (vs.getD (slotOf r) Go.undef) m)
def fr0 (args:List AV) (vs:List Value) (F:Nat→Nat→Prop) (Fs:Nat→Nat→Nat→Prop):Rid→Nat→Prop:=fun r b=>match partOf r with
 | 0=>match args[slotOf r]? with
  | some (.row _ _)=>F (slotOf r) b
  | _=>(hdrOf (vs.getD (slotOf r) Go.undef)).1=some b
 | m + 1=>Fs (slotOf r) m b
theorem rho0_zero {w:World} {vs:List Value} {k:Nat} {v:Value} (hv:vs[k]? = some v):rho0 w vs (rv k 0)=hdrOf v:=by
 simp [rho0,partOf_rv (k:=k) (m:=0) (by omega),slotOf_rv (k:=k) (m:=0) (by omega),hv]
theorem rho0_succ {w:World} {vs:List Value} {k m:Nat} {v:Value} (hm:m + 1 < 64) (hv:vs[k]? = some v):rho0 w vs (rv k (m + 1))=hdrOf (cellAt w v m):=by
 simp [rho0,partOf_rv (k:=k) hm,slotOf_rv (k:=k) hm,hv]
theorem hdr_of_row {w:World} {F:Nat→Prop} {sz:Nat} {xs:List (List AV)} {v:Value} (ho:OC w F (.row sz xs) v):hdr (hdrOf v) sz 0 xs.length v∧∃ A c,v = .slice A xs.length c∧xs.length≤c∧(A=none→c=0):=by
 rcases ho.row_inv with ⟨rfl,rfl⟩ | ⟨g,cap,cs,ty,fr,Fs,rfl,e2,e3,e4,e5,-⟩
 ·exact ⟨⟨none,0,rfl,fun _=>⟨rfl,rfl⟩,fun h=>absurd h (by simp)⟩,none,0,rfl,by simp,fun _=>rfl⟩
 ·exact ⟨⟨_,cap,rfl,fun _=>⟨rfl,rfl⟩,fun h=>⟨g,rfl,by simp⟩⟩,_,cap,rfl,e5,fun h=>by cases h⟩
theorem rowOK_of {X:Fix} {w:World} {F:Nat→Prop} {sz:Nat} {xs:List (List AV)} {v:Value} (ho:OC w F (.row sz xs) v) (hF:∀ b,F b→X.w0.heap.size≤b∨∀ k,X.Chg b k):RowOK X w F (hdrOf v) sz xs:=by
 rcases ho.row_inv with ⟨rfl,rfl⟩ | ⟨g,cap,cs,ty,fr,Fs,rfl,e2,e3,e4,e5,-⟩
 ·exact .inr ⟨rfl,rfl⟩
 ·exact .inl ⟨g,rfl,ho,hF⟩
theorem va_row {w:World} {S F:Nat→Prop} {h:Heap} {ρ:Rho} {r:Rid} {sz:Nat} {xs:List (List AV)} {v:Value} (ho:OC w F (.row sz xs) v) (hρ:ρ r=hdrOf v) (hl:∀ x,look r h=some x→x = .row sz xs []) :
  VA w S h ρ (.ref r none sz 0 xs.length none) v:=by
 obtain ⟨h1,h2⟩:=hdr_of_row ho
 refine .ref (fun sz' ys hg => ?_) (by simp) h2
 obtain ⟨y,hy⟩:=getRow_some hg
 have:=hl y hy
 subst this
 simp only [getRow,hy,subRow,Option.some.injEq,Prod.mk.injEq] at hg
 obtain ⟨rfl,rfl⟩:=hg
 refine ⟨rfl,by simp,hdrOf v,?_,h1⟩
 unfold refAt
 rw [hy]
 exact hρ.symm
theorem FV.rid1_nil {w:World} {S:Nat→Prop} {a:AV} {v:Value} (hf:FV w S a v):rid1 a = []:=by cases hf<;>rfl
theorem FV.rids_nil {w:World} {S:Nat→Prop} {a:AV} {v:Value} (hf:FV w S a v):rid2 a = []:=by
 have key:∀ {cs:List AV} {vs:Array Value},vs.size=cs.length→(∀ (k:Nat) (a:AV) (v:Value),cs[k]? = some a→vs[k]? = some v→FV w S a v)→cs.flatMap rid1 = []:=by
  intro cs vs hn hc
  rw [List.flatMap_eq_nil_iff]
  intro a ha
  obtain ⟨k,hk⟩:=List.mem_iff_getElem?.1 ha
  have hlt:=lt_len hk
  rw [←hn] at hlt
  exact (hc k a _ hk (Array.getElem?_eq_getElem hlt)).rid1_nil
 cases hf with
 | agg hn hc=>exact key hn hc
 | fn hn hc=>exact key hn hc
 | _=>rfl
theorem FV.rids_nil' {w:World} {S:Nat→Prop} {a:AV} {v:Value} (hf:FV w S a v):rids a = []:=by
 have:=hf.rids_nil
 cases hf<;>exact this
structure ArgsR (w:World) (S:Nat→Prop) (args:List AV) (vs:List Value) (F:Nat→Nat→Prop):Prop where
 len:vs.length=args.length
 lt:∀ b,S b→b < w.heap.size
 one:∀ k k' b,F k b→F k' b→k=k'
 own:∀ k b,F k b→b < w.heap.size∧¬ S b
 arg:∀ (k:Nat) (a:AV) (v:Value),args[k]? = some a→vs[k]? = some v→ArgR w S (F k) a v
def BoxAt (w:World) (S:Nat→Prop) (F:Nat→Prop) (Fs:Nat→Nat→Prop) (cs:List AV) (v:Value):Prop:=
 ∃ g o,v = .pointer (some ⟨g,o,none⟩)∧∃ (vs:Array Value) (ty:TypeId) (fr:Nat × Nat),w.heap[g]? = some (.cells vs ty fr)∧Thaw vs fr∧o + cs.length≤vs.size∧F g∧
  (∀ k b,Fs k b→F b∧b≠g)∧(∀ k k' b,Fs k b→Fs k' b→k=k')∧∀ (k:Nat) (a:AV),cs[k]? = some a→CellR w S (Fs k) a (vs.getD (o + k) Go.undef)
theorem boxAt {w:World} {S:Nat→Prop} {F:Nat→Prop} {cs:List AV} {v:Value} (h:ArgR w S F (.wptr cs) v):∃ Fs,BoxAt w S F Fs cs v:=by
 obtain ⟨g,o,rfl,vs,ty,fr,h1,h2,h3,h4,Fs,h5,h6,h7⟩:=h
 exact ⟨Fs,g,o,rfl,vs,ty,fr,h1,h2,h3,h4,h5,h6,h7⟩
def AggAt (w:World) (S:Nat→Prop) (F:Nat→Prop) (Fs:Nat→Nat→Prop) (cs:List AV) (v:Value):Prop:=
 ∃ vs:Array Value,v = .agg vs∧vs.size=cs.length∧(∀ k b,Fs k b→F b)∧(∀ k k' b,Fs k b→Fs k' b→k=k')∧∀ (k:Nat) (a:AV),cs[k]? = some a→CellR w S (Fs k) a (vs.getD k Go.undef)
theorem aggAt {w:World} {S:Nat→Prop} {F:Nat→Prop} {cs:List AV} {v:Value} (h:ArgR w S F (.agg cs) v):∃ Fs,AggAt w S F Fs cs v:=by
 obtain ⟨vs,rfl,h1,Fs,h5,h6,h7⟩:=h
 exact ⟨Fs,vs,rfl,h1,h5,h6,h7⟩
theorem cellAt_box {w:World} {g o:Nat} {vs:Array Value} {ty:TypeId} {fr:Nat × Nat} (h:w.heap[g]? = some (.cells vs ty fr)) {m:Nat} (hm:o + m < vs.size):cellAt w (.pointer (some ⟨g,o,none⟩)) m=vs.getD (o + m) Go.undef:=by
 simp [cellAt,cell_of_heap h,hm]
theorem enter_sim {P:Program} {T:Types} {args:List AV} {w:World} {S:Nat→Prop} {vs:List Value} {F:Nat→Nat→Prop} (h:ArgsR w S args vs F) (hw:∀ (k:Nat) (cs:List AV),args[k]? = some (.wptr cs)→cs.length < 63) (hw2:∀ (k:Nat) (cs:List AV),args[k]? = some (.agg cs)→cs.any isRow=true→cs.length < 63) {n:Nat} :
  Sim ⟨P,T,w,S,Granted F args vs⟩ (fun _=>False) ⟨(enter 0 args).1,(enter 0 args).2,false⟩ { tmps:=vs.toArray++Array.replicate (n - vs.toArray.size) Go.undef,defers := [] } w:=by
 -- the parts of boxes
 have hch:∀ k,∃ Fs:Nat→Nat→Prop,(∀ cs v,args[k]? = some (.wptr cs)→vs[k]? = some v→BoxAt w S (F k) Fs cs v)∧∀ cs v,args[k]? = some (.agg cs)→vs[k]? = some v→AggAt w S (F k) Fs cs v:=by
  intro k
  cases ha:args[k]? with
  | none=>exact ⟨fun _ _=>False,by simp⟩
  | some a=>
   cases a with
   | agg cs=>
    have hlt:=lt_len ha
    rw [←h.len] at hlt
    obtain ⟨Fs,hFs⟩:=aggAt (h.arg k _ _ ha (List.getElem?_eq_getElem hlt))
    refine ⟨Fs,by simp,fun cs' v' e1 e2 => ?_⟩
    rw [List.getElem?_eq_getElem hlt] at e2
    simp only [Option.some.injEq,AV.agg.injEq] at e1 e2
    subst e1 e2
    exact hFs
   | wptr cs=>
    have hlt:=lt_len ha
    rw [←h.len] at hlt
    obtain ⟨Fs,hFs⟩:=boxAt (h.arg k _ _ ha (List.getElem?_eq_getElem hlt))
    refine ⟨Fs,fun cs' v' e1 e2 => ?_,by simp⟩
    rw [List.getElem?_eq_getElem hlt] at e2
    simp only [Option.some.injEq,AV.wptr.injEq] at e1 e2
    subst e1 e2
    exact hFs
   | _=>exact ⟨fun _ _=>False,by simp⟩
 obtain ⟨Fs,hFs0⟩:=Classical.axiomOfChoice hch
 have hFs:=fun k=>(hFs0 k).1
 have hFa:=fun k=>(hFs0 k).2
 have hval:∀ {k:Nat} {a:AV},args[k]? = some a→∃ v,vs[k]? = some v:=fun hk=>by
  have hlt:=lt_len hk
  rw [←h.len] at hlt
  exact ⟨_,List.getElem?_eq_getElem hlt⟩
 -- the roots that there are
 have hroot:∀ {r x},look r (enter 0 args).2=some x→∃ k v,vs[k]? = some v∧((∃ sz xs,args[k]? = some (.row sz xs)∧r=rv k 0∧x = .row sz xs [])∨
   (∃ cs,args[k]? = some (.wptr cs)∧cs.length < 63∧BoxAt w S (F k) (Fs k) cs v∧((r=rv k 0∧x = .box (enterCells k 0 cs).1)∨∃ m sz xs,cs[m]? = some (.row sz xs)∧m < 63∧r=rv k (m + 1)∧x = .row sz xs []))∨
   ∃ cs,args[k]? = some (.agg cs)∧AggAt w S (F k) (Fs k) cs v∧∃ m sz xs,cs[m]? = some (.row sz xs)∧m < 63∧r=rv k (m + 1)∧x = .row sz xs []):=by
  intro r x hl
  obtain ⟨k,hk⟩:=enter_look hl
  rw [Nat.zero_add] at hk
  rcases hk with ⟨sz,xs,h1,h2⟩ | ⟨cs,h1,h2⟩ | ⟨cs,h1,m,sz,xs,h3,h4⟩
  ·obtain ⟨v,hv⟩:=hval h1
   exact ⟨k,v,hv, .inl ⟨sz,xs,h1,h2⟩⟩
  ·obtain ⟨v,hv⟩:=hval h1
   have hl:=hw k cs h1
   refine ⟨k,v,hv, .inr (.inl ⟨cs,h1,hl,hFs k cs v h1 hv,h2.imp id fun ⟨m,sz,xs,h3,h4⟩=>⟨m,sz,xs,h3,?_,h4⟩⟩)⟩
   have:=lt_len h3
   omega
  ·obtain ⟨v,hv⟩:=hval h1
   have hl:=hw2 k cs h1 (List.any_eq_true.2 ⟨_,List.mem_of_getElem? h3,rfl⟩)
   have:=lt_len h3
   exact ⟨k,v,hv, .inr (.inr ⟨cs,h1,hFa k cs v h1 hv,m,sz,xs,h3,by omega,h4⟩)⟩
 have hrow:∀ {k sz xs x},args[k]? = some (.row sz xs)→look (rv k 0) (enter 0 args).2=some x→x = .row sz xs []:=by
  intro k sz xs x ha hl
  obtain ⟨k',v,-,h1 | ⟨cs,h1,h2,-,h3 | h3⟩ | ⟨cs,h1,-,h3⟩⟩:=hroot hl
  rotate_right
  ·obtain ⟨m,sz',xs',h4,h5,h6,-⟩:=h3
   have:=(rv_inj (by omega) (by omega) h6).2
   omega
  ·obtain ⟨sz',xs',h1,h2,rfl⟩:=h1
   obtain ⟨rfl,-⟩:=rv_inj (by omega) (by omega) h2
   rw [ha] at h1
   simp only [Option.some.injEq,AV.row.injEq] at h1
   obtain ⟨rfl,rfl⟩:=h1
   rfl
  ·obtain ⟨rfl,-⟩:=rv_inj (by omega) (by omega) h3.1
   rw [ha] at h1
   cases h1
  ·obtain ⟨m,sz',xs',h4,h5,h6,-⟩:=h3
   have:=(rv_inj (by omega) (by omega) h6).2
   omega
 have hcell:∀ {k cs m sz xs x},args[k]? = some (.wptr cs)→cs[m]? = some (.row sz xs)→m < 63→look (rv k (m + 1)) (enter 0 args).2=some x→x = .row sz xs []:=by
  intro k cs m sz xs x ha hm hlt hl
  obtain ⟨k',v,-,h1 | ⟨cs',h1,h2,-,h3 | h3⟩ | ⟨cs',h1,-,h3⟩⟩:=hroot hl
  rotate_right
  ·obtain ⟨m',sz',xs',h4,h5,h6,rfl⟩:=h3
   obtain ⟨rfl,h7⟩:=rv_inj (by omega) (by omega) h6
   rw [ha] at h1
   cases h1
  ·obtain ⟨sz',xs',h1,h2,rfl⟩:=h1
   have:=(rv_inj (by omega) (by omega) h2).2
   omega
  ·have:=(rv_inj (by omega) (by omega) h3.1).2
   omega
  ·obtain ⟨m',sz',xs',h4,h5,h6,rfl⟩:=h3
   obtain ⟨rfl,h7⟩:=rv_inj (by omega) (by omega) h6
   have:m=m':=by omega
   subst this
   rw [ha] at h1
   simp only [Option.some.injEq,AV.wptr.injEq] at h1
   subst h1
   rw [hm] at h4
   simp only [Option.some.injEq,AV.row.injEq] at h4
   obtain ⟨rfl,rfl⟩:=h4
   rfl
 have hcella:∀ {k cs m sz xs x},args[k]? = some (.agg cs)→cs[m]? = some (.row sz xs)→m < 63→look (rv k (m + 1)) (enter 0 args).2=some x→x = .row sz xs []:=by
  intro k cs m sz xs x ha hm hlt hl
  obtain ⟨k',v,-,h1 | ⟨cs',h1,h2,-,h3 | h3⟩ | ⟨cs',h1,-,h3⟩⟩:=hroot hl
  ·obtain ⟨sz',xs',h1,h2,rfl⟩:=h1
   have:=(rv_inj (by omega) (by omega) h2).2
   omega
  ·have:=(rv_inj (by omega) (by omega) h3.1).2
   omega
  ·obtain ⟨m',sz',xs',h4,h5,h6,rfl⟩:=h3
   obtain ⟨rfl,h7⟩:=rv_inj (by omega) (by omega) h6
   rw [ha] at h1
   cases h1
  ·obtain ⟨m',sz',xs',h4,h5,h6,rfl⟩:=h3
   obtain ⟨rfl,h7⟩:=rv_inj (by omega) (by omega) h6
   have:m=m':=by omega
   subst this
   rw [ha] at h1
   simp only [Option.some.injEq,AV.agg.injEq] at h1
   subst h1
   rw [hm] at h4
   simp only [Option.some.injEq,AV.row.injEq] at h4
   obtain ⟨rfl,rfl⟩:=h4
   rfl
 have hbox:∀ {k cs x},args[k]? = some (.wptr cs)→look (rv k 0) (enter 0 args).2=some x→x = .box (enterCells k 0 cs).1:=by
  intro k cs x ha hl
  obtain ⟨k',v,-,h1 | ⟨cs',h1,h2,-,h3 | h3⟩ | ⟨cs',h1,-,h3⟩⟩:=hroot hl
  rotate_right
  ·obtain ⟨m',sz',xs',h4,h5,h6,rfl⟩:=h3
   have:=(rv_inj (by omega) (by omega) h6).2
   omega
  ·obtain ⟨sz',xs',h1,h2,rfl⟩:=h1
   obtain ⟨rfl,-⟩:=rv_inj (by omega) (by omega) h2
   rw [ha] at h1
   cases h1
  ·obtain ⟨h3,rfl⟩:=h3
   obtain ⟨rfl,-⟩:=rv_inj (by omega) (by omega) h3
   rw [ha] at h1
   simp only [Option.some.injEq,AV.wptr.injEq] at h1
   subst h1
   rfl
  ·obtain ⟨m',sz',xs',h4,h5,h6,rfl⟩:=h3
   have:=(rv_inj (by omega) (by omega) h6).2
   omega
 -- blocks
 have hfr:∀ {r x b},look r (enter 0 args).2=some x→fr0 args vs F Fs r b→∃ k,k=slotOf r∧F k b∧((partOf r=0∧((∃ sz xs,args[k]? = some (.row sz xs))∨∃ cs,args[k]? = some (.wptr cs)∧(hdrOf (vs.getD k Go.undef)).1=some b))∨
   ∃ m,partOf r=m + 1∧Fs k m b∧(∀ m',Fs k m' b→m'=m)∧((∃ cs,args[k]? = some (.wptr cs)∧(hdrOf (vs.getD k Go.undef)).1≠some b)∨∃ cs,args[k]? = some (.agg cs))):=by
  intro r x b hl hb
  obtain ⟨k,v,hv,h1 | ⟨cs,h1,h2,hbx,h3 | h3⟩ | ⟨cs,h1,hbx,h3⟩⟩:=hroot hl
  ·obtain ⟨sz,xs,h1,rfl,rfl⟩:=h1
   simp only [fr0,partOf_rv (k:=k) (m:=0) (by omega),slotOf_rv (k:=k) (m:=0) (by omega),h1] at hb ⊢
   exact ⟨k,rfl,hb, .inl ⟨by simp, .inl ⟨_,_,h1⟩⟩⟩
  ·obtain ⟨rfl,rfl⟩:=h3
   simp only [fr0,partOf_rv (k:=k) (m:=0) (by omega),slotOf_rv (k:=k) (m:=0) (by omega),h1] at hb ⊢
   obtain ⟨g,o,rfl,vs',ty,fr,b1,b2,b3,b4,b5,b6,b7⟩:=hbx
   have hg:vs.getD k Go.undef = .pointer (some ⟨g,o,none⟩):=by simp [hv]
   have hgb:g=b:=by
    rw [hg] at hb
    simpa [hdrOf] using hb
   subst hgb
   exact ⟨k,rfl,b4, .inl ⟨by simp, .inr ⟨_,h1,hb⟩⟩⟩
  ·obtain ⟨m,sz,xs,h3,h4,rfl,rfl⟩:=h3
   simp only [fr0,partOf_rv (k:=k) (m:=m + 1) (by omega),slotOf_rv (k:=k) (m:=m + 1) (by omega)] at hb ⊢
   obtain ⟨g,o,rfl,vs',ty,fr,b1,b2,b3,b4,b5,b6,b7⟩:=hbx
   have hg:vs.getD k Go.undef = .pointer (some ⟨g,o,none⟩):=by simp [hv]
   refine ⟨k,rfl,(b5 m b hb).1, .inr ⟨m,by simp,hb,fun m' hm'=>b6 m' m b hm' hb, .inl ⟨cs,h1,?_⟩⟩⟩
   rw [hg]
   simp only [hdrOf]
   intro e
   injection e with e
   exact (b5 m b hb).2 e.symm
  ·obtain ⟨m,sz,xs,h3,h4,rfl,rfl⟩:=h3
   simp only [fr0,partOf_rv (k:=k) (m:=m + 1) (by omega),slotOf_rv (k:=k) (m:=m + 1) (by omega)] at hb ⊢
   obtain ⟨vs',rfl,b1,b5,b6,b7⟩:=hbx
   exact ⟨k,rfl,b5 m b hb, .inr ⟨m,by simp,hb,fun m' hm'=>b6 m' m b hm' hb, .inr ⟨cs,h1⟩⟩⟩
 refine ⟨?_,?_,rho0 w vs,fr0 args vs F Fs,?_,?_⟩
 ·-- labels
  intro r hr
  have hno:∀ {k m},LabR (fun _=>False) (rv k m):=fun ht=>by rw [isTemp_rv] at ht;cases ht
  have hcs:∀ {k cs r},args[k]? = some (.wptr cs)→r ∈ ridsBox (.box (enterCells k 0 cs).1)→LabR (fun _=>False) r:=by
   intro k cs r ha hr
   simp only [ridsBox,List.mem_flatMap] at hr
   obtain ⟨c,hc,hr⟩:=hr
   obtain ⟨j,hj⟩:=List.mem_iff_getElem?.1 hc
   rw [enterCells_fst.2] at hj
   cases hcj:cs[j]? with
   | none=>rw [hcj] at hj;cases hj
   | some c0=>
    rw [hcj] at hj
    simp only [Option.map_some,Option.some.injEq] at hj
    have hlt:=lt_len ha
    obtain ⟨v,hv⟩:=hval ha
    obtain ⟨g,o,rfl,vs',ty,fr,b1,b2,b3,b4,b5,b6,b7⟩:=hFs k cs v ha hv
    have:=b7 j c0 hcj
    cases this with
    | row ho=>
     simp only [inCell] at hj
     subst hj
     simp only [rid2,rid1,List.mem_singleton] at hr
     subst hr
     exact hno
    | fv hf=>
     have:inCell k (0 + j) c0=c0:=by
      cases c0 with
      | row=>cases hf
      | _=>rfl
     rw [this] at hj
     subst hj
     rw [hf.rids_nil] at hr
     cases hr
  rcases hr with ⟨k,v,hk,hr⟩ | ⟨q,x,hl,hr⟩
  ·obtain ⟨j,a,h1,h2,rfl⟩:=enter_fst (k:=0) hk
   obtain ⟨u,hu⟩:=hval h2
   have ha:=h.arg j a u h2 hu
   cases a with
   | row sz xs=>
    simp only [enter1,rids,rid2,rid1,List.mem_singleton] at hr
    subst hr
    exact hno
   | wptr cs=>
    simp only [enter1,rids,rid2,rid1,List.mem_singleton] at hr
    subst hr
    exact hno
   | agg cs=>
    obtain ⟨vs',rfl,b1,b5,b6,b7⟩:=hFa j cs u h2 hu
    simp only [enter1,rids,rid2,List.mem_flatMap] at hr
    obtain ⟨c,hc,hr⟩:=hr
    obtain ⟨q,hq⟩:=List.mem_iff_getElem?.1 hc
    rw [enterCells_fst.2] at hq
    cases hcj:cs[q]? with
    | none=>rw [hcj] at hq;cases hq
    | some c0=>
     rw [hcj] at hq
     simp only [Option.map_some,Option.some.injEq] at hq
     cases b7 q c0 hcj with
     | row ho=>
      simp only [inCell] at hq
      subst hq
      simp only [rid1,List.mem_singleton] at hr
      subst hr
      exact hno
     | fv hf=>
      have:inCell k (0 + q) c0=c0:=by
       cases c0 with
       | row=>cases hf
       | _=>rfl
      rw [this] at hq
      subst hq
      rw [hf.rid1_nil] at hr
      cases hr
   | _=>
    simp only [enter1] at hr
    have hf:FV w S _ u:=ha
    rw [hf.rids_nil'] at hr
    cases hr
  ·rcases hr with rfl | hr
   ·obtain ⟨k,v,-,h1 | ⟨cs,h1,h2,-,h3 | h3⟩ | ⟨cs,h1,-,h3⟩⟩:=hroot hl
    rotate_right
    ·obtain ⟨m,sz,xs,-,-,rfl,-⟩:=h3
     exact hno
    ·obtain ⟨sz,xs,-,rfl,-⟩:=h1
     exact hno
    ·rw [h3.1];exact hno
    ·obtain ⟨m,sz,xs,-,-,rfl,-⟩:=h3
     exact hno
   ·obtain ⟨k,v,-,h1 | ⟨cs,h1,h2,-,h3 | h3⟩ | ⟨cs,h1,-,h3⟩⟩:=hroot hl
    rotate_right
    ·obtain ⟨m,sz,xs,-,-,rfl,rfl⟩:=h3
     simp [ridsBox] at hr
    ·obtain ⟨sz,xs,-,rfl,rfl⟩:=h1
     simp [ridsBox] at hr
    ·rw [h3.2] at hr
     exact hcs h1 hr
    ·obtain ⟨m,sz,xs,-,-,rfl,rfl⟩:=h3
     simp [ridsBox] at hr
 ·intro b hb
  refine ⟨h.lt b hb,fun k ⟨j,a,u,h1,h2,h3⟩ => ?_⟩
  exact (h.own j b (h3.block (h.arg j a u h1 h2))).2 hb
 ·-- memory
  refine ⟨rfl,rfl,rfl,Nat.le_refl _,fun b _ => .inl rfl,?_,?_,?_⟩
  ·intro r x hl
   obtain ⟨k,v,hv,h1 | ⟨cs,h1,h2,hbx,h3 | h3⟩ | ⟨cs,h1,hbx,h3⟩⟩:=hroot hl
   rotate_right
   ·obtain ⟨m,sz,xs,h3,h4,rfl,rfl⟩:=h3
    show RowOK _ _ _ _ _ _
    obtain ⟨vs',rfl,b1,b5,b6,b7⟩:=hbx
    rw [rho0_succ (by omega) hv]
    have:fr0 args vs F Fs (rv k (m + 1))=Fs k m:=by
     funext b
     simp only [fr0,partOf_rv (k:=k) (m:=m + 1) (by omega),slotOf_rv (k:=k) (m:=m + 1) (by omega)]
    rw [this]
    have hcr:=b7 m _ h3
    cases hcr with
    | fv hf=>cases hf
    | row ho=>exact rowOK_of ho fun b hb => .inr fun q=>⟨k,_,_,h1,hv,List.any_eq_true.2 ⟨_,List.mem_of_getElem? h3,rfl⟩,b5 m b hb⟩
   ·obtain ⟨sz,xs,h1,rfl,rfl⟩:=h1
    have ho:OC w (F k) (.row sz xs) v:=h.arg k _ v h1 hv
    show RowOK _ _ _ _ _ _
    rw [rho0_zero hv]
    have:fr0 args vs F Fs (rv k 0)=F k:=by
     funext b
     simp only [fr0,partOf_rv (k:=k) (m:=0) (by omega),slotOf_rv (k:=k) (m:=0) (by omega),h1]
    rw [this]
    exact rowOK_of ho fun b hb => .inr fun q=>⟨k,_,v,h1,hv,hb⟩
   ·obtain ⟨rfl,rfl⟩:=h3
    show BoxOK _ _ _ _ _ _ _
    rw [rho0_zero hv]
    obtain ⟨g,o,rfl,vs',ty,fr,b1,b2,b3,b4,b5,b6,b7⟩:=hbx
    have hgd:vs.getD k Go.undef = .pointer (some ⟨g,o,none⟩):=by simp [hv]
    have hfr0:∀ b,fr0 args vs F Fs (rv k 0) b↔b=g:=by
     intro b
     simp only [fr0,partOf_rv (k:=k) (m:=0) (by omega),slotOf_rv (k:=k) (m:=0) (by omega),h1,hgd,hdrOf]
     constructor
     ·intro e;injection e with e;exact e.symm
     ·rintro rfl;rfl
    obtain ⟨e1,e2⟩:=enterCells_fst (k:=k) (cs:=cs) (m:=0)
    refine ⟨g,vs',ty,fr,rfl,b1,b2,by simp only [hdrOf];rw [e1];exact b3,(hfr0 g).2 rfl,fun b hb=>(hfr0 b).1 hb,fun q hq => .inr ⟨k,_,_,h1,hv,g,o,rfl, .inr ⟨rfl,by simp [hdrOf],by simp only [hdrOf];rw [e1] at hq;omega⟩⟩,fun q a hq => ?_⟩
    rw [e2] at hq
    cases hcq:cs[q]? with
    | none=>rw [hcq] at hq;cases hq
    | some c0=>
     rw [hcq] at hq
     simp only [Option.map_some,Option.some.injEq] at hq
     have hlq:=lt_len hcq
     have hlt:o + q < vs'.size:=by omega
     refine ⟨vs'.getD (o + q) Go.undef,by simp [hdrOf,hlt],?_⟩
     have hcr:=b7 q c0 hcq
     cases hcr with
     | row ho=>
      simp only [inCell,Nat.zero_add] at hq
      subst hq
      refine .up (va_row ho ?_ (fun x hx=>hcell h1 hcq (by omega) hx))
      rw [rho0_succ (by omega) hv,cellAt_box b1 hlt]
     | fv hf=>
      have:inCell k (0 + q) c0=c0:=by
       cases c0 with
       | row=>cases hf
       | _=>rfl
      rw [this] at hq
      subst hq
      exact .up (.fv hf)
   ·obtain ⟨m,sz,xs,h3,h4,rfl,rfl⟩:=h3
    show RowOK _ _ _ _ _ _
    obtain ⟨g,o,rfl,vs',ty,fr,b1,b2,b3,b4,b5,b6,b7⟩:=hbx
    have hlm:=lt_len h3
    have hlt:o + m < vs'.size:=by omega
    rw [rho0_succ (by omega) hv,cellAt_box b1 hlt]
    have:fr0 args vs F Fs (rv k (m + 1))=Fs k m:=by
     funext b
     simp only [fr0,partOf_rv (k:=k) (m:=m + 1) (by omega),slotOf_rv (k:=k) (m:=m + 1) (by omega)]
    rw [this]
    have hcr:=b7 m _ h3
    cases hcr with
    | fv hf=>cases hf
    | row ho=>exact rowOK_of ho fun b hb => .inr fun q=>⟨k,_,_,h1,hv,g,o,rfl, .inl (b5 m b hb)⟩
  ·intro r x b hl hb
   obtain ⟨k,-,hb,-⟩:=hfr hl hb
   exact h.own k b hb
  ·intro r x r' x' b hl hl' hb hb'
   obtain ⟨k,hk,h1,h2⟩:=hfr hl hb
   obtain ⟨k',hk',h1',h2'⟩:=hfr hl' hb'
   have:=h.one k k' b h1 h1'
   subst this
   have hkey:∀ {r x},look r (enter 0 args).2=some x→r=rv (slotOf r) (partOf r):=by
    intro r x hl
    obtain ⟨k,v,hv,h1 | ⟨cs,h1,h2,hbx,h3 | h3⟩ | ⟨cs,h1,hbx,h3⟩⟩:=hroot hl
    rotate_right
    ·obtain ⟨m,sz,xs,h3,h4,rfl,rfl⟩:=h3
     rw [slotOf_rv (by omega),partOf_rv (by omega)]
    ·obtain ⟨sz,xs,h1,rfl,rfl⟩:=h1
     rw [slotOf_rv (by omega),partOf_rv (by omega)]
    ·obtain ⟨rfl,rfl⟩:=h3
     rw [slotOf_rv (by omega),partOf_rv (by omega)]
    ·obtain ⟨m,sz,xs,h3,h4,rfl,rfl⟩:=h3
     rw [slotOf_rv (by omega),partOf_rv (by omega)]
   rw [hkey hl,hkey hl',←hk,←hk']
   congr 1
   have hno:∀ {m},((∃ sz xs,args[k]? = some (.row sz xs))∨∃ cs,args[k]? = some (.wptr cs)∧(hdrOf (vs.getD k Go.undef)).1=some b)→Fs k m b→((∃ cs,args[k]? = some (.wptr cs)∧(hdrOf (vs.getD k Go.undef)).1≠some b)∨∃ cs,args[k]? = some (.agg cs))→False:=by
    rintro m (⟨sz,xs,e1⟩ | ⟨cs,e1,e2⟩) - (⟨cs',e3,e4⟩ | ⟨cs',e3⟩)
    ·rw [e1] at e3;cases e3
    ·rw [e1] at e3;cases e3
    ·exact e4 e2
    ·rw [e1] at e3;cases e3
   rcases h2 with ⟨p1,p2⟩ | ⟨m,p1,p2,p3,p4⟩
   ·rcases h2' with ⟨p1',p2'⟩ | ⟨m',p1',p2',p3',p4'⟩
    ·rw [p1,p1']
    ·exact (hno p2 p2' p4').elim
   ·rcases h2' with ⟨p1',p2'⟩ | ⟨m',p1',p2',p3',p4'⟩
    ·exact (hno p2' p2 p4).elim
    ·rw [p1,p1',p3 m' p2']
 ·-- slots
  intro q x hq
  obtain ⟨j,a,h1,h2,rfl⟩:=enter_fst (k:=0) hq
  rw [Nat.zero_add] at h1
  subst h1
  obtain ⟨u,hu⟩:=hval h2
  have hlt:=lt_len hu
  refine ⟨by simp only [Array.size_append,List.size_toArray];omega,?_⟩
  have hgd:(vs.toArray++Array.replicate (n - vs.toArray.size) Go.undef).getD q Go.undef=u:=by
   have h3:vs[q]=u:=by
    rw [List.getElem?_eq_getElem hlt] at hu
    exact Option.some.inj hu
   simp [Array.getD_eq_getD_getElem?,Array.getElem?_append,hlt,h3]
  simp only [hgd]
  have ha:=h.arg q a u h2 hu
  cases a with
  | row sz xs=>exact .up (.up (va_row ha (rho0_zero hu) (fun x hx=>hrow h2 hx)))
  | wptr cs=>
   refine .up (.up ?_)
   obtain ⟨g,o,rfl,vs',ty,fr,b1,b2,b3,b4,b5,b6,b7⟩:=hFs q cs u h2 hu
   refine .ptr (fun c hc => ?_) ⟨_,rfl⟩
   obtain ⟨y,hy⟩:=getChunk_some hc
   have:=hbox h2 hy
   subst this
   refine ⟨g,o,?_,rfl⟩
   unfold ptrAt
   rw [hy]
   exact ⟨rfl,rfl,rho0_zero hu⟩
  | agg cs=>
   obtain ⟨vs',rfl,b1,b5,b6,b7⟩:=hFa q cs u h2 hu
   obtain ⟨e1,e2⟩:=enterCells_fst (k:=q) (cs:=cs) (m:=0)
   refine .up (.agg (by rw [b1];exact e1.symm) (fun k a v hk hv => ?_))
   rw [e2] at hk
   cases hcq:cs[k]? with
   | none=>rw [hcq] at hk;cases hk
   | some c0=>
    rw [hcq] at hk
    simp only [Option.map_some,Option.some.injEq] at hk
    have hvk:vs'.getD k Go.undef=v:=by simp [hv]
    have hcr:=b7 k c0 hcq
    rw [hvk] at hcr
    cases hcr with
    | @row sz xs _ ho=>
     simp only [inCell,Nat.zero_add] at hk
     subst hk
     have hl63:=hw2 q cs h2 (List.any_eq_true.2 ⟨_,List.mem_of_getElem? hcq,rfl⟩)
     have hlk:=lt_len hcq
     refine va_row ho ?_ (fun x hx=>hcella h2 hcq (by omega) hx)
     rw [rho0_succ (by omega) hu]
     simp only [cellAt,hvk]
    | fv hf=>
     have:inCell q (0 + k) c0=c0:=by
      cases c0 with
      | row=>cases hf
      | _=>rfl
     rw [this] at hk
     subst hk
     exact .fv hf
  | _=>exact .up (.up (.fv ha))

def argsOK (p:List Nat):Nat→List AV→Bool
 | _,[]=>true
 | k, .row _ _ :: as=>memR k p && argsOK p (k + 1) as
 | k, .wptr cs :: as=>memR k p && decide (cs.length < 63) && argsOK p (k + 1) as
 | k, .agg cs :: as=>(!(cs.any isRow) || (memR k p && decide (cs.length < 63))) && argsOK p (k + 1) as
 | k,_ :: as=>argsOK p (k + 1) as
def okFn (p:List Nat) (n:Nat) (fn:Func):Bool:=
 decide (fn.results.size≤4) && decide (n≤fn.ntmps) && !(fn.name == "runtime.NumGoroutine") &&
 (match fn.body with | some b=>dstOK (fun k=>memR k p) fn.ntmps b | none=>false)
theorem argsOK_at {p:List Nat}:∀ {as:List AV} {k:Nat},argsOK p k as=true→∀ (j:Nat),(∀ sz xs,as[j]? = some (.row sz xs)→memR (k + j) p=true)∧(∀ cs,as[j]? = some (.wptr cs)→memR (k + j) p=true∧cs.length < 63)∧∀ cs,as[j]? = some (.agg cs)→cs.any isRow=true→memR (k + j) p=true∧cs.length < 63
 | [],k,h,j=>by simp
 | a :: as,k,h,j=>by
  have hr:argsOK p (k + 1) as=true:=by
   cases a<;>simp only [argsOK,Bool.and_eq_true] at h<;>first | exact h | exact h.2
  cases j with
  | zero=>
   refine ⟨fun sz xs e => ?_,fun cs e => ?_,fun cs e hr => ?_⟩
   ·simp at e
    subst e
    simp only [argsOK,Bool.and_eq_true] at h
    exact h.1
   ·simp at e
    subst e
    simp only [argsOK,Bool.and_eq_true,decide_eq_true_eq] at h
    exact h.1
   ·simp at e
    subst e
    simp only [argsOK,hr,Bool.not_true,Bool.false_or,Bool.and_eq_true,decide_eq_true_eq] at h
    exact h.1
  | succ j=>
   have:=argsOK_at hr j
   rw [show k + 1 + j=k + (j + 1) by omega] at this
   simpa using this
def rvRun (tmps:Array Value):ResultVar→Sem Value
 | .tmp t=>pure (tmps.getD t Go.undef)
 | .cell a t=>do loadVar t (←asAddr (tmps.getD a Go.undef))
theorem resVals_sound {X:Fix} {T:Types} {w:World} {ρ:Rho} {Fr:Rid→Nat→Prop} {s:St} {tmps:Array Value} (hT:TOk X.P T) (m:Mem X s.h ρ Fr w) (ht:∀ t a,look t s.t=some a→VR w X.S s.h ρ a (tmps.getD t Go.undef)) :
  ∀ {rs:List ResultVar} {vs:List AV},resVals T s rs=some vs→∃ us:List Value,us.length=rs.length∧vs.length=rs.length∧(∀ (k:Nat) (a:AV) (u:Value),vs[k]? = some a→us[k]? = some u→VR w X.S s.h ρ a u)∧
   ∀ (k:Nat) (r:ResultVar) (u:Value),rs[k]? = some r→us[k]? = some u→(rvRun tmps r).run X.P w = .ok u w
 | [],vs,h=>by
  simp only [resVals,Option.some.injEq] at h
  subst h
  exact ⟨[],rfl,rfl,by simp,by simp⟩
 | r :: rs,vs,h=>by
  have key:∀ a as u,resVals T s rs=some as→vs=a :: as→VR w X.S s.h ρ a u→(rvRun tmps r).run X.P w = .ok u w→∃ us:List Value,us.length=(r :: rs).length∧vs.length=(r :: rs).length∧(∀ (k:Nat) (a:AV) (u:Value),vs[k]? = some a→us[k]? = some u→VR w X.S s.h ρ a u)∧
   ∀ (k:Nat) (q:ResultVar) (u:Value),(r :: rs)[k]? = some q→us[k]? = some u→(rvRun tmps q).run X.P w = .ok u w:=by
   intro a as u h1 h2 h3 h4
   subst h2
   obtain ⟨us,g1,g2,g3,g4⟩:=resVals_sound hT m ht h1
   refine ⟨u :: us,by simp [g1],by simp [g2],fun k b v hk hv => ?_,fun k q v hk hv => ?_⟩
   ·cases k with
    | zero=>
     simp at hk hv
     subst hk hv
     exact h3
    | succ k=>exact g3 k b v (by simpa using hk) (by simpa using hv)
   ·cases k with
    | zero=>
     simp at hk hv
     subst hk hv
     exact h4
    | succ k=>exact g4 k q v (by simpa using hk) (by simpa using hv)
  cases r with
  | tmp t=>
   simp only [resVals] at h
   split at h
   ·rename_i a as h1 h2
    simp only [Option.some.injEq] at h
    exact key a as _ h2 h.symm (ht t a h1) (by simp [rvRun])
   ·cases h
  | cell ad ty=>
   simp only [resVals] at h
   split at h
   ·rename_i a h1
    split at h
    ·rename_i e as h2 h3
     simp only [Option.some.injEq] at h
     obtain ⟨-,-,⟨q,h4,h5⟩,-⟩:=loadAV_sound hT m (ht ad a h1) h2
     obtain ⟨A,hA⟩:∃ A,tmps.getD ad Go.undef = .pointer (some A):=by
      have hv:=ht ad a h1
      unfold loadAV at h2
      split at h2
      ·cases hv.ptr_inv with
       | fv hf=>cases hf
       | ptr _ h6=>exact h6
      ·have hf:=hv.fptr_inv
       revert hf
       generalize tmps.getD ad Go.undef=u
       intro hf
       cases hf with
       | fptr=>exact ⟨_,rfl⟩
      ·cases h2
     rw [hA] at h4
     have h4:(rvRun tmps (.cell ad ty)).run X.P w = .ok q w:=by
      rw [←h4]
      simp [rvRun,hA,Instr.loadAt,Instr.sureAddr,asAddr]
     exact key e.out as q h3 h.symm h5 h4
    ·cases h
   ·cases h
def resOf:List Value→Value
 | [v]=>v
 | vs => .tuple vs.toArray
theorem results_run {fn:Func} {rs:List ResultVar} (h:fn.results.toList=rs) (hs:fn.results.size≤4) {tmps:Array Value} {P:Program} {w:World} {us:List Value} (hl:us.length=rs.length)
  (hr:∀ (k:Nat) (r:ResultVar) (u:Value),rs[k]? = some r→us[k]? = some u→(rvRun tmps r).run P w = .ok u w):(Go.results fn tmps).run P w = .ok (resOf us) w:=by
 have h':fn.results=rs.toArray:=by rw [←h]
 have hl':rs.length≤4:=by
  rw [h'] at hs
  simpa using hs
 have e:Go.results fn tmps=(do
   let vs ←fn.results.mapM (rvRun tmps)
   pure (if h:vs.size=1 then vs[0] else Value.tuple vs)):=by
  unfold Go.results
  congr 1
 rw [e,h']
 match rs,us,hl,hl',hr with
 | [],[],_,_,_=>simp [resOf]
 | [a],[u],_,_,hr=>
  have h0:=hr 0 a u rfl rfl
  simp [h0,resOf]
 | [a,b],[u,v],_,_,hr=>
  have h0:=hr 0 a u rfl rfl
  have h1:=hr 1 b v rfl rfl
  simp [h0,h1,resOf]
 | [a,b,c],[u,v,x],_,_,hr=>
  have h0:=hr 0 a u rfl rfl
  have h1:=hr 1 b v rfl rfl
  have h2:=hr 2 c x rfl rfl
  simp [h0,h1,h2,resOf]
 | [a,b,c,d],[u,v,x,y],_,_,hr=>
  have h0:=hr 0 a u rfl rfl
  have h1:=hr 1 b v rfl rfl
  have h2:=hr 2 c x rfl rfl
  have h3:=hr 3 d y rfl rfl
  simp [h0,h1,h2,h3,resOf]
 | a :: b :: c :: d :: e :: r,_,_,hl,_=>simp at hl
theorem results_sound {X:Fix} {T:Types} {w:World} {ρ:Rho} {Fr:Rid→Nat→Prop} {s:St} {fn:Func} {tmps:Array Value} {v:AV} {h:Heap} (hT:TOk X.P T) (m:Mem X s.h ρ Fr w) (ht:∀ t a,look t s.t=some a→VR w X.S s.h ρ a (tmps.getD t Go.undef))
  (hs:fn.results.size≤4) (hr:results T s fn.results.toList=some (v,h)) :
  ∃ u,(Go.results fn tmps).run X.P w = .ok u w∧Under h s.h∧ResR w X.S (fun b=>Taken Fr s.h h b∧Own0 X b) v u:=by
 unfold results at hr
 split at hr
 rotate_left
 ·cases hr
 rename_i vs hv
 obtain ⟨us,h1,h2,h3,h4⟩:=resVals_sound hT m ht hv
 refine ⟨_,results_run rfl hs h1 h4,?_⟩
 have key:∀ {ds:List AV} {h':Heap},leaveList s.h vs=some (ds,h')→_:=fun {ds h'} hl=>leaveList_sound (f:=fun k=>us.getD k Go.undef) m .refl hl (fun k a hk=>by
  have hlt:=lt_len hk
  rw [h2,←h1] at hlt
  simp only [List.getD_eq_getElem?_getD,List.getElem?_eq_getElem hlt,Option.getD_some]
  exact h3 k a _ hk (List.getElem?_eq_getElem hlt))
 split at hr
 ·rename_i d h' hl
  simp only [Option.some.injEq,Prod.mk.injEq] at hr
  obtain ⟨rfl,rfl⟩:=hr
  obtain ⟨g1,g2,Fs,g3,g4,g5⟩:=key hl
  have:us.length=1:=by rw [h1,←h2,←g1];rfl
  obtain ⟨t,rfl⟩:∃ t,us = [t]:=by
   match us,this with
   | [t],_=>exact ⟨t,rfl⟩
  refine ⟨g2,?_⟩
  have h6:=g5 0 _ rfl
  have h7:ResR1 w X.S (fun b=>Taken Fr s.h h' b∧Own0 X b) d t:=by
   have h8:ResR1 w X.S (Fs 0) d t:=by simpa using h6
   -- fewer blocks
   have hmono:∀ {F F':Nat→Prop} {a:AV} {u:Value},(∀ b,F b→F' b)→ResR1 w X.S F a u→ResR1 w X.S F' a u:=by
    intro F F' a u hF hr
    cases a with
    | row sz xs=>exact OC.mono hr hF
    | agg cs=>
     obtain ⟨vs,e1,e2,e3⟩:=hr
     exact ⟨vs,e1,e2,e3.mono (fun _ h=>h) hF⟩
    | _=>exact hr
   exact hmono (fun b hb=>g3 0 b hb) h8
  cases d with
  | tup cs=>
   exfalso
   cases vs with
   | nil=>simp [leaveList] at hl
   | cons a as=>
    simp only [leaveList] at hl
    split at hl
    rotate_left
    ·cases hl
    rename_i b h1' hb
    split at hl
    rotate_left
    ·cases hl
    simp only [Option.some.injEq,Prod.mk.injEq,List.cons.injEq] at hl
    obtain ⟨⟨rfl,-⟩,-⟩:=hl
    unfold leave1 at hb
    split at hb
    ·split at hb
     ·simp at hb
     ·cases hb
    ·unfold leaveCell at hb
     split at hb
     ·split at hb
      ·split at hb
       ·simp at hb
       ·cases hb
      ·cases hb
     all_goals first | (simp at hb;done) | cases hb
  | wptr cs=>
   have h9:FV w X.S (.wptr cs) t:=h7
   cases h9
  | pp=>trivial
  | _=>exact h7
 ·rename_i ds h' hne hl
  simp only [Option.some.injEq,Prod.mk.injEq] at hr
  obtain ⟨rfl,rfl⟩:=hr
  obtain ⟨g1,g2,Fs,g3,g4,g5⟩:=key hl
  refine ⟨g2,?_⟩
  have hne':∀ t,us ≠ [t]:=by
   rintro t rfl
   rw [←h2] at h1
   rw [←g1] at h1
   obtain ⟨d,rfl⟩:∃ d,ds = [d]:=by
    match ds,h1 with
    | [d],_=>exact ⟨d,rfl⟩
   exact hne d rfl
  have hm:resOf us = .tuple us.toArray:=by
   match us,hne' with
   | [],_=>rfl
   | [t],h=>exact absurd rfl (h t)
   | _ :: _ :: _,_=>rfl
  rw [hm]
  refine ⟨_,rfl,by simp [g1,h1,h2],Fs,g3,g4,fun k a hk => ?_⟩
  have hlt:=lt_len hk
  rw [g1,h2,←h1] at hlt
  have:=g5 k a hk
  simp only [List.getD_eq_getElem?_getD,List.getElem?_eq_getElem hlt,Option.getD_some] at this
  simpa [hlt] using this
 ·cases hr
theorem Grant.none {F:Nat→Prop} {a:AV} {v:Value} {b k:Nat} (h:noGrant a=true):¬ Grant F a v b k:=by
 intro hg
 cases a with
 | row=>simp [noGrant] at h
 | wptr=>simp [noGrant] at h
 | agg cs=>
  have h1:cs.any isRow=true:=hg.1
  simp only [noGrant,h1] at h
  cases h
 | _=>exact hg
theorem resultsA_sound {X:Fix} {T:Types} {w:World} {ρ:Rho} {Fr:Rid→Nat→Prop} {s:St} {fn:Func} {tmps:Array Value} {v:AV} {h:Heap} {args:List AV} (hT:TOk X.P T) (m:Mem X s.h ρ Fr w) (ht:∀ t a,look t s.t=some a→VR w X.S s.h ρ a (tmps.getD t Go.undef))
  (hs:fn.results.size≤4) (hng:args.all noGrant=true→∀ b k,¬ X.Chg b k) (hr:resultsA T s fn.results.toList args=some (v,h)) :
  ∃ u,(Go.results fn tmps).run X.P w = .ok u w∧Under h s.h∧ResR w X.S (fun b=>Taken Fr s.h h b∧Own0 X b) v u:=by
 unfold resultsA at hr
 split at hr
 ·rename_i hr1
  cases hr
  exact results_sound hT m ht hs hr1
 unfold ptrRes at hr
 split at hr
 rotate_left
 ·cases hr
 rename_i hall
 have hchg:=hng hall
 split at hr
 rotate_left
 ·cases hr
 rename_i r hv
 split at hr
 rotate_left
 ·cases hr
 rename_i c cs hlk
 split at hr
 rotate_left
 ·cases hr
 rename_i ds h1 hl1
 simp only [Option.some.injEq,Prod.mk.injEq] at hr
 obtain ⟨rfl,rfl⟩:=hr
 obtain ⟨us,u1,u2,u3,u4⟩:=resVals_sound hT m ht hv
 refine ⟨_,results_run rfl hs u1 u4,?_⟩
 have hul:us.length=1:=by rw [u1,←u2];rfl
 obtain ⟨t,rfl⟩:∃ t,us = [t]:=by
  match us,hul with
  | [t],_=>exact ⟨t,rfl⟩
 have hptr:=(u3 0 _ t rfl rfl).ptr_inv
 obtain ⟨g,vs,ty,fr,k1,k2,k3,k4,k5,k6,k7,k8⟩:=m.root r _ hlk
 cases hptr with
 | fv hf=>cases hf
 | ptr p1 p2=>
 obtain ⟨g',o,q1,rfl⟩:=p1 (c :: cs) (by simp [getChunk,hlk])
 unfold ptrAt at q1
 rw [hlk] at q1
 obtain ⟨-,-,q1⟩:=q1
 rw [q1] at k1 k4 k7 k8
 simp only [Option.some.injEq] at k1
 subst k1
 obtain ⟨g3,g4,Fs,g5,g6,g7⟩:=leaveCells_sound m (f:=fun k=>vs.getD (o + k) Go.undef) Under.del hl1 (fun k a hk=>by
  obtain ⟨v,r1,r2⟩:=k8 k a hk
  have:vs.getD (o + k) Go.undef=v:=by simp [r1]
  rw [this]
  exact r2)
 have hnone:look r (del r s.h)=none:=by rw [look_del];simp
 have hown:Own0 X g':=by
  rcases k7 0 (by simp) with h | h
  ·exact .inl h
  ·exact absurd h (hchg _ _)
 refine ⟨g4.trans .del,g',o,by simp [resOf],vs,ty,fr,k2,k3,by rw [g3];exact k4,⟨⟨r,_,hlk,g4.none hnone,k5⟩,hown⟩,Fs,fun k b hk => ?_,g6,g7⟩
 obtain ⟨t1,t2⟩:=g5 k b hk
 refine ⟨⟨t1.mono_left .del,t2⟩,fun e => ?_⟩
 subst e
 obtain ⟨r',x',e1,e2,e3⟩:=t1
 have hrr:=m.disj r' x' r _ b (Under.del r' x' e1) hlk e3 k5
 subst hrr
 rw [hnone] at e1
 cases e1
theorem wkC_inv {a b:AV} (h:wkC a b):a=b∨(∃ sz sz',a = .frz sz (some true) []∧b = .row sz' []):=by
 unfold wkC at h
 split at h
 ·subst h
  exact .inr ⟨_,_,rfl,rfl⟩
 ·exact .inl h
theorem FV.nil_row {w:World} {S F:Nat→Prop} {sz sz':Nat} {v:Value} (hf:FV w S (.frz sz (some true) []) v):OC w F (.row sz' []) v:=by
 cases hf with
 | frz h hn=>
  have:=hn true rfl
  cases h with
  | nil=>exact .nil _
  | row=>simp [nilV] at this
theorem wkC_cell {w:World} {S F:Nat→Prop} {a b:AV} {v:Value} (h:wkC a b) (hc:CellR w S F a v):CellR w S F b v:=by
 rcases wkC_inv h with rfl | ⟨sz,sz',rfl,rfl⟩
 ·exact hc
 ·cases hc with
  | fv hf=>exact .row hf.nil_row
theorem wkCs_get:∀ {as bs:List AV},wkCs as bs→as.length=bs.length∧∀ (k:Nat) (a b:AV),as[k]? = some a→bs[k]? = some b→wkC a b
 | [],[],_=>by simp
 | a :: as,b :: bs,h=>by
  obtain ⟨h1,h2⟩:=wkCs_get h.2
  refine ⟨by simp [h1],fun k x y hx hy => ?_⟩
  cases k with
  | zero=>
   simp at hx hy
   subst hx hy
   exact h.1
  | succ k=>exact h2 k x y (by simpa using hx) (by simpa using hy)
 | [],_ :: _,h=>h.elim
 | _ :: _,[],h=>h.elim
theorem wk1_res {w:World} {S F:Nat→Prop} {a b:AV} {v:Value} (h:wk1 a b) (hr:ResR1 w S F a v):ResR1 w S F b v:=by
 unfold wk1 at h
 split at h
 ·obtain ⟨vs,rfl,h1,Fs,h2,h3,h4⟩:=hr
  obtain ⟨g1,g2⟩:=wkCs_get h
  refine ⟨vs,rfl,by omega,Fs,h2,h3,fun k y hk => ?_⟩
  have hlt:=lt_len hk
  rw [←g1] at hlt
  have hx:=List.getElem?_eq_getElem hlt
  exact wkC_cell (g2 k _ y hx hk) (h4 k _ hx)
 ·rcases wkC_inv h with rfl | ⟨sz,sz',rfl,rfl⟩
  ·exact hr
  ·exact FV.nil_row hr
theorem wko1_out {w:World} {S F:Nat→Prop} {a b:AV} {v:Value} (h:wko1 a b) (hr:OutR w S F a v):OutR w S F b v:=by
 unfold wko1 at h
 split at h
 ·obtain ⟨g,o,h1,vs,ty,fr,h2,h3,h4,h5,Fs,h6,h7,h8⟩:=hr
  obtain ⟨g1,g2⟩:=wkCs_get h
  refine ⟨g,o,h1,vs,ty,fr,h2,h3,by rw [←g1];exact h4,h5,Fs,h6,h7,fun k y hk => ?_⟩
  obtain ⟨x,hx⟩:∃ x,_=some x:=⟨_,List.getElem?_eq_getElem (by rw [g1];exact lt_len hk)⟩
  exact wkC_cell (g2 k _ y hx hk) (h8 k _ hx)
 ·trivial
 ·subst h
  exact hr
theorem wko_get:∀ {as bs:List AV},wko as bs→as.length=bs.length∧∀ (k:Nat) (b:AV),bs[k]? = some b→∃ a,as[k]? = some a∧wko1 a b
 | [],[],_=>⟨rfl,by simp⟩
 | a :: as,b :: bs,h=>by
  obtain ⟨h1,h2⟩:=wko_get h.2
  refine ⟨by simp [h1],fun k c hk => ?_⟩
  cases k with
  | zero=>
   simp at hk
   subst hk
   exact ⟨a,rfl,h.1⟩
  | succ k=>exact h2 k c (by simpa using hk)
theorem wks_get:∀ {as bs:List AV},wks as bs→as.length=bs.length∧∀ (k:Nat) (a b:AV),as[k]? = some a→bs[k]? = some b→wk1 a b
 | [],[],_=>by simp
 | a :: as,b :: bs,h=>by
  obtain ⟨h1,h2⟩:=wks_get h.2
  refine ⟨by simp [h1],fun k x y hx hy => ?_⟩
  cases k with
  | zero=>
   simp at hx hy
   subst hx hy
   exact h.1
  | succ k=>exact h2 k x y (by simpa using hx) (by simpa using hy)
 | [],_ :: _,h=>h.elim
 | _ :: _,[],h=>h.elim
theorem wk_res {w:World} {S F:Nat→Prop} {a b:AV} {v:Value} (h:wk a b) (hr:ResR w S F a v):ResR w S F b v:=by
 unfold wk at h
 split at h
 ·obtain ⟨vs,rfl,h1,Fs,h2,h3,h4⟩:=hr
  obtain ⟨g1,g2⟩:=wks_get h
  refine ⟨vs,rfl,by omega,Fs,h2,h3,fun k y hk => ?_⟩
  have hlt:=lt_len hk
  rw [←g1] at hlt
  have hx:=List.getElem?_eq_getElem hlt
  exact wk1_res (g2 k _ y hx hk) (h4 k _ hx)
 ·rename_i hne
  by_cases e:a=b
  ·subst e;exact hr
  ·have h':=h
   cases a with
   | tup cs=>
    unfold wk1 at h
    simp only [wkC] at h
    exact absurd h e
   | wptr cs=>
    unfold wk1 at h
    simp only [wkC] at h
    exact absurd h e
   | pp=>
    unfold wk1 at h
    simp only [wkC] at h
    exact absurd h e
   | _=>
    have hr1:=wk1_res (w:=w) (S:=S) (F:=F) h hr
    cases b with
    | tup ds=>simp only [wk1,wkC] at h'<;>(first | exact absurd h' e | exact h'.elim)
    | wptr ds=>simp only [wk1,wkC] at h'<;>(first | exact absurd h' e | exact h'.elim)
    | pp=>trivial
    | _=>exact hr1
theorem leaveCell_pp {h h':Heap} {a:AV} {k c:Nat} {p:Path} {i j:Nat}:leaveCell h a≠some (.pp k c p i j,h'):=by
 intro e
 unfold leaveCell at e
 split at e
 ·split at e
  ·split at e
   ·simp at e
   ·cases e
  ·cases e
 all_goals simp at e
theorem leaveList_pp {h h':Heap} {as:List AV} {k c:Nat} {p:Path} {i j:Nat}:leaveList h as≠some ([.pp k c p i j],h'):=by
 intro e
 cases as with
 | nil=>simp [leaveList] at e
 | cons a as=>
  simp only [leaveList] at e
  split at e
  rotate_left
  ·cases e
  rename_i b h1 hb
  split at e
  rotate_left
  ·cases e
  simp only [Option.some.injEq,Prod.mk.injEq,List.cons.injEq] at e
  obtain ⟨⟨rfl,-⟩,-⟩:=e
  unfold leave1 at hb
  split at hb
  ·split at hb
   ·simp at hb
   ·cases hb
  ·exact leaveCell_pp hb
theorem resultsA_pp {T:Types} {s:St} {rs:List ResultVar} {args:List AV} {h:Heap} {k c:Nat} {p:Path} {i j:Nat}:resultsA T s rs args≠some (.pp k c p i j,h):=by
 intro e
 unfold resultsA at e
 split at e
 ·rename_i x hx
  cases e
  unfold results at hx
  split at hx
  ·split at hx
   ·rename_i hl
    simp only [Option.some.injEq,Prod.mk.injEq] at hx
    obtain ⟨rfl,rfl⟩:=hx
    exact leaveList_pp hl
   ·simp at hx
   ·cases hx
  ·cases hx
 ·unfold ptrRes at e
  split at e
  ·split at e
   ·split at e
    ·split at e
     ·simp at e
     ·cases e
    ·cases e
   ·cases e
  ·cases e
theorem wk_pp {v:AV} {k c:Nat} {p:Path} {i j:Nat} (h:wk v (.pp k c p i j)):v = .pp k c p i j:=by
 cases v<;>simp only [wk,wk1,wkC] at h<;>first | exact h | exact h.elim | cases h
section
variable {P:Program} {T:Types} {M:Modes} {C:FuncId→List AV→AV→List AV→Prop} {c:Cfg} {fn:Func} {f:FuncId} {args:List AV} {res:AV} {os:List AV}
theorem Runs.snd (hT:TOk P T) (hC:Sound P C) (hm:P.follows .mixedOrders=true) (hf:P.funcs[f]? = some fn) {p:List Nat} (hk:okFn p args.length fn=true) (ha:argsOK p 0 args=true) (hol:os.length=args.length)
  (h:Runs T M C fn c args res os):Snd P f args res os:=by
 refine ⟨hol,fun w S vs F hvl hS hF1 hF2 hA => ?_⟩
 simp only [okFn,Bool.and_eq_true,decide_eq_true_eq,Bool.not_eq_true'] at hk
 obtain ⟨⟨⟨k2,k3⟩,k4⟩,k5⟩:=hk
 unfold Runs at h
 split at h
 rotate_left
 ·exact h.elim
 rename_i b hb
 rw [hb] at k5
 simp only at k5
 have hargs:ArgsR w S args vs F:=⟨hvl,hS,hF1,hF2,hA⟩
 have hat:=argsOK_at ha
 have hsim:=enter_sim (P:=P) (T:=T) (n:=fn.ntmps) hargs (fun k cs e=>((hat k).2.1 cs e).2) (fun k cs e hr=>((hat k).2.2 cs e hr).2)
 generalize ha0:({ tmps:=vs.toArray++Array.replicate (fn.ntmps - vs.toArray.size) Go.undef,defers := [] }:Act)=a0 at hsim
 have hsz:a0.tmps.size=fn.ntmps:=by
  rw [←ha0]
  simp
  omega
 have hget:∀ k,k < vs.length→a0.tmps.getD k Go.undef=vs.getD k Go.undef:=by
  intro k hk
  rw [←ha0]
  simp [Array.getD_eq_getD_getElem?,Array.getElem?_append,hk]
 have hwp:=awp_sound (X:=⟨P,T,w,S,Granted F args vs⟩) (p:=fun k=>memR k p) (a0:=a0) hT hC hm (by rw [hsz];exact k5) h ⟨hsim,Kept.refl⟩
 refine .inl ⟨?_,?_⟩
 ·simp [callFunc,go_sem,hf,hb]
  simpa using k4
 ·refine calls_of_wp hf hb ?_
  rw [ha0]
  refine wp_mono hwp (fun e a w' hq => ?_)
  have key:∀ s,Ok ⟨P,T,w,S,Granted F args vs⟩ (fun k=>memR k p) a0 s a w'→Ends T fn.results.toList args res os s→a.defers = []∧∃ v,(Go.results fn a.tmps).run P w' = .ok v w'∧
    (fun e w''=>∃ v,e=Ending.returned v∧(Framed (Granted F args vs) w w''∧
   ∃ G:Nat→Nat→Prop,(∀ k k' b,G k b→G k' b→k=k')∧
    (∀ k b,G k b→b < w''.heap.size∧(w.heap.size≤b∨(∃ k',F k' b)∧((∀ m,Granted F args vs b m)∨∃ k1 o,k=k1 + 1∧vs[k1]? = some (.pointer (some ⟨b,o,none⟩)))))∧
    ResR w'' S (G 0) res v∧(∀ (k:Nat) (o:AV) (u:Value),os[k]? = some o→vs[k]? = some u→OutR w'' S (G (k + 1)) o u)∧PPres w'' vs os res v)) (.returned v) w':=by
   rintro s ⟨⟨hlab,hSc,ρ,Fr,mm,ht⟩,hkept⟩ hE
   have hfull:∀ b,Own0 ⟨P,T,w,S,Granted F args vs⟩ b→w.heap.size≤b∨(∃ k',F k' b)∧∀ m,Granted F args vs b m:=by
    rintro b (hb | hb)
    ·exact .inl hb
    ·obtain ⟨k,x,u,g1,g2,g3⟩:=hb 0
     exact .inr ⟨⟨k,g3.block (hA k x u g1 g2)⟩,hb⟩
   obtain ⟨e1,e2,e3⟩:=hkept
   -- the arguments' slots are what they were
   have hpin:∀ k,memR k p=true→k < args.length→a.tmps.getD k Go.undef=vs.getD k Go.undef:=by
    intro k hk hlt
    rw [e3 k hk]
    exact hget k (by rw [hvl];exact hlt)
   obtain ⟨u,h',r1,r2,r3,hpp,ho⟩:∃ u h',(Go.results fn a.tmps).run P w' = .ok u w'∧Under h' s.h∧ResR w' S (fun b=>Taken Fr s.h h' b∧Own0 ⟨P,T,w,S,Granted F args vs⟩ b) res u∧PPres w' vs os res u∧wko (outs s.t h' 0 args) os:=by
    unfold Ends at hE
    split at hE
    ·rename_i v h' hr
     obtain ⟨hwk,ho⟩:=hE
     obtain ⟨u,r1,r2,r3⟩:=resultsA_sound (fn:=fn) (tmps:=a.tmps) hT mm (fun t x hx=>(ht t x hx).2) k2 (fun hall b q ⟨k,x,u,g1,g2,g3⟩=>Grant.none (List.all_eq_true.1 hall x (List.mem_of_getElem? g1)) g3) hr
     refine ⟨u,h',r1,r2,wk_res hwk r3,?_,ho⟩
     cases res with
     | pp k c p i j=>exact absurd (wk_pp hwk ▸ hr) resultsA_pp
     | _=>trivial
    ·split at hE
     rotate_left
     ·exact hE.elim
     rename_i k c pth i j
     obtain ⟨hE,hisw,ho⟩:=hE
     obtain ⟨cs',hargk⟩:∃ cs',args[k]? = some (.wptr cs'):=by
      unfold isWptr at hisw
      split at hisw
      ·exact ⟨_,by assumption⟩
      ·cases hisw
     have hkp:=(hat k).2.1 cs' hargk
     rw [Nat.zero_add] at hkp
     have hkl:=lt_len hargk
     unfold ppEnds at hE
     split at hE
     rotate_left
     ·exact hE.elim
     rename_i r p' i' j' q ds hv hlk hok
     split at hE
     rotate_left
     ·exact hE.elim
     rename_i cs sz xs hbx hdc
     split at hE
     rotate_left
     ·exact hE.elim
     rename_i r2 sz1 n1 nl sz2 xs2 dt sz' ys1 hcc hlr hsub
     split at hE
     rotate_left
     ·exact hE.elim
     rename_i sz3 ys hsub2
     obtain ⟨rfl,rfl,rfl,rfl,rfl,rfl,hlt⟩:=hE
     obtain ⟨us,u1,u2,u3,u4⟩:=resVals_sound hT mm (fun t x hx=>(ht t x hx).2) hv
     have hul:us.length=1:=by rw [u1,←u2];rfl
     obtain ⟨t,rfl⟩:∃ t,us = [t]:=by
      match us,hul with
      | [t],_=>exact ⟨t,rfl⟩
     refine ⟨_,s.h,results_run rfl k2 u1 u4, .refl,trivial,?_,ho⟩
     have hvk:=(ht k _ hlk).2
     rw [hpin k hkp.1 hkl] at hvk
     obtain ⟨g0,o0,b1,b2⟩:=box_root hvk hbx
     obtain ⟨g',vs',ty,fr,m1,m2,m3,m4,m5,m6,m7,m8⟩:=mm.root q _ hbx
     rw [b1] at m1
     simp only [Option.some.injEq] at m1
     subst m1
     rw [b1] at m8
     obtain ⟨cv,n2,n3⟩:=m8 c _ hcc
     have hcell:w'.cell? ⟨g0,o0 + c,none⟩=some cv:=by rw [cell_of_heap m2];exact n2
     have hpt:=(u3 0 _ t rfl rfl).ptr_inv
     cases hpt with
     | fv hf=>cases hf
     | ptr p1 p2=>
     have hch:getChunk s.h r2 p' i'=some ys[i']:=by
      unfold getChunk
      rw [hlr]
      simp only [hsub2]
      exact List.getElem?_eq_getElem hlt
     obtain ⟨g,o,q1,rfl⟩:=p1 _ hch
     unfold ptrAt at q1
     rw [hlr] at q1
     obtain ⟨sz4,ys4,bc,q2,q3,q4,rfl⟩:=q1
     rw [hsub2] at q2
     simp only [Option.some.injEq,Prod.mk.injEq] at q2
     obtain ⟨rfl,rfl⟩:=q2
     have hvb:=n3
     cases hvb with
     | up hva=>
     cases hva with
     | fv hf=>cases hf
     | ref f1 f2 f3=>
     obtain ⟨f4,f5,bc2,f6,f7⟩:=f1 sz2 xs2 (by unfold getRow;rw [hlr];rfl)
     obtain ⟨A,cap,rfl,f8,-⟩:=f7
     obtain ⟨rfl,rfl⟩:=f8 rfl
     unfold refAt at f6
     rw [hlr] at f6
     have f6:bc2=ρ r2:=f6
     subst f6
     have hvsk:vs[k]? = some (vs.getD k Go.undef):=by
      have:k < vs.length:=by omega
      simp [this]
     refine ⟨g0,o0,_,g,sz2,sz3,ρ r2,bc,ds,xs,ys1,?_,hok,hdc,hsub,hcell,q3,q4,rfl⟩
     rw [hvsk,b2]
     rfl
   refine ⟨by rw [e2,←ha0],u,r1,u,rfl,⟨mm.os,mm.tape,mm.out,mm.size,mm.frame⟩,?_⟩
   obtain ⟨Gs,q1,q2,q3⟩:=outs_sound' mm (t:=s.t) (p:=p) (f:=fun k=>vs.getD k Go.undef) (as:=args) (h:=h') (k:=0) r2 hat (fun j x hj hp hx=>by
    rw [Nat.zero_add] at hp hx ⊢
    have:=(ht j x hx).2
    rw [hpin j hp hj] at this
    exact this)
   refine ⟨fun k b=>match k with | 0=>Taken Fr s.h h' b∧Own0 ⟨P,T,w,S,Granted F args vs⟩ b | k + 1=>Gs k b∧k < args.length,?_,?_,r3,?_,hpp⟩
   ·intro k k' b h1 h2
    have hap:∀ k,Taken Fr s.h h' b→Gs k b→False:=by
     intro k t1 t2
     obtain ⟨⟨h2,h3,c1,c2,c3⟩,-⟩:=q1 k b t2
     exact t1.apart mm .refl c1 (c1.trans r2) c3
    cases k with
    | zero=>
     cases k' with
     | zero=>rfl
     | succ k'=>exact (hap k' h1.1 h2.1).elim
    | succ k=>
     cases k' with
     | zero=>exact (hap k h2.1 h1.1).elim
     | succ k'=>rw [q2 k k' b h1.1 h2.1]
   ·intro k b hb
    cases k with
    | zero=>
     obtain ⟨⟨r,x,c1,c2,c3⟩,c4⟩:=hb
     exact ⟨(mm.foot r x b c1 c3).1,(hfull b c4).imp id fun ⟨c5,c6⟩=>⟨c5, .inl c6⟩⟩
    | succ k=>
     obtain ⟨hb,hkl⟩:=hb
     obtain ⟨⟨h2,h3,c1,c2,r,x,c3,c4,c5⟩,c6⟩:=q1 k b hb
     refine ⟨(mm.foot r x b (r2 _ _ (c1 _ _ c3)) c5).1,?_⟩
     rcases c6 with c6 | ⟨⟨o,c6⟩,cs,c7⟩
     ·exact (hfull b c6).imp id fun ⟨c7,c8⟩=>⟨c7, .inl c8⟩
     ·rw [Nat.zero_add] at c6
      have hkv:k < vs.length:=by omega
      have hvk:vs[k]? = some (.pointer (some ⟨b,o,none⟩)):=by
       simp only [List.getD_eq_getElem?_getD,List.getElem?_eq_getElem hkv,Option.getD_some] at c6
       rw [List.getElem?_eq_getElem hkv,c6]
      refine .inr ⟨⟨k,?_⟩, .inr ⟨k,o,rfl,hvk⟩⟩
      obtain ⟨g,o',d1,d2⟩:=hA k _ _ c7 hvk
      injection d1 with d1
      injection d1 with d1
      injection d1 with d1 _ _
      subst d1
      obtain ⟨_,_,_,_,_,_,d3,_⟩:=d2
      exact d3
   ·intro k o u hko hku
    have hkl:k < args.length:=by rw [←hvl];exact lt_len hku
    obtain ⟨o',hko',hwo⟩:=(wko_get ho).2 k o hko
    refine wko1_out hwo ?_
    have:=q3 k o' hko'
    rw [Nat.zero_add] at this
    have hu:vs.getD k Go.undef=u:=by simp [hku]
    simp only [hu] at this
    have hG:Gs k=fun b=>Gs k b∧k < args.length:=by
     funext b
     simp [hkl]
    show OutR w' S (fun b=>Gs k b∧k < args.length) o' u
    rw [←hG]
    exact this
  cases e with
  | normal=>
   obtain ⟨s,h1,h2⟩:=hq
   exact key s h1 h2
  | ret=>
   obtain ⟨s,h1,h2⟩:=hq
   exact key s h1 h2
  | exit i=>
   obtain ⟨s,h1,h2⟩:=hq
   exact h2.elim
  | _=>exact hq.elim
end
theorem FV.frz_nil {w:World} {S:Nat→Prop} {sz:Nat} {nl:Option Bool} {xs:List (List AV)} {v:Value} (hf:FV w S (.frz sz nl xs) v):FV w S (.frz sz (some (nilV v)) xs) v:=by
 cases hf with
 | frz h hn=>exact .frz h (fun b hb=>by injection hb)
theorem FV.frz_empty {w:World} {S:Nat→Prop} {sz:Nat} {nl:Option Bool} {xs:List (List AV)} {v:Value} (hf:FV w S (.frz sz nl xs) v) (hv:nilV v=true):xs = []:=by
 cases hf with
 | frz h hn=>
  cases h with
  | nil=>rfl
  | row=>simp [nilV] at hv
theorem Snd.frz_cases {P:Program} {f:FuncId} {pre post:List AV} {sz:Nat} {nl:Option Bool} {xs:List (List AV)} {res:AV} {outs:List AV} (h1:xs = []→Snd P f (pre ++ .frz sz (some true) [] :: post) res outs) (h2:Snd P f (pre ++ .frz sz (some false) xs :: post) res outs) :
  Snd P f (pre ++ .frz sz nl xs :: post) res outs:=by
 refine ⟨by have:=h2.1;simpa using this,fun w S vs F hvl hS hF1 hF2 hA => ?_⟩
 have hk:pre.length < vs.length:=by rw [hvl];simp
 have hf0:ArgR w S (F pre.length) (.frz sz nl xs) vs[pre.length]:=hA pre.length (.frz sz nl xs) _ (by simp) (List.getElem?_eq_getElem hk)
 have hf:FV w S (.frz sz nl xs) vs[pre.length]:=hf0
 have key:∀ b ys,FV w S (.frz sz (some b) ys) vs[pre.length]→Snd P f (pre ++ .frz sz (some b) ys :: post) res outs→_:=fun b ys hb hs=>hs.2 w S vs F (by simpa using hvl) hS hF1 hF2 (fun k a v hk' hv=>by
  by_cases e:k=pre.length
  ·subst e
   rw [List.getElem?_append_right (Nat.le_refl _)] at hk'
   simp at hk'
   subst hk'
   rw [List.getElem?_eq_getElem hk] at hv
   injection hv with hv
   subst hv
   exact hb
  ·refine hA k a v ?_ hv
   rw [List.getElem?_append] at hk' ⊢
   split
   ·rename_i hlt
    rw [if_pos hlt] at hk'
    exact hk'
   ·rename_i hlt
    rw [if_neg hlt] at hk'
    obtain ⟨q,hq⟩:∃ q,k - pre.length=q + 1:=⟨k - pre.length - 1,by omega⟩
    rw [hq] at hk' ⊢
    simpa using hk')
 have hgr:∀ b ys,∀ bb m,Granted F (pre ++ .frz sz (some b) ys :: post) vs bb m↔Granted F (pre ++ .frz sz nl xs :: post) vs bb m:=by
  intro b ys bb m
  constructor
  ·rintro ⟨k,a,u,g1,g2,g3⟩
   by_cases e:k=pre.length
   ·subst e
    rw [List.getElem?_append_right (Nat.le_refl _)] at g1
    simp at g1
    subst g1
    exact g3.elim
   ·refine ⟨k,a,u,?_,g2,g3⟩
    rw [List.getElem?_append] at g1 ⊢
    split
    ·rename_i hlt;rw [if_pos hlt] at g1;exact g1
    ·rename_i hlt
     rw [if_neg hlt] at g1
     obtain ⟨q,hq⟩:∃ q,k - pre.length=q + 1:=⟨k - pre.length - 1,by omega⟩
     rw [hq] at g1 ⊢
     simpa using g1
  ·rintro ⟨k,a,u,g1,g2,g3⟩
   by_cases e:k=pre.length
   ·subst e
    rw [List.getElem?_append_right (Nat.le_refl _)] at g1
    simp at g1
    subst g1
    exact g3.elim
   ·refine ⟨k,a,u,?_,g2,g3⟩
    rw [List.getElem?_append] at g1 ⊢
    split
    ·rename_i hlt;rw [if_pos hlt] at g1;exact g1
    ·rename_i hlt
     rw [if_neg hlt] at g1
     obtain ⟨q,hq⟩:∃ q,k - pre.length=q + 1:=⟨k - pre.length - 1,by omega⟩
     rw [hq] at g1 ⊢
     simpa using g1
 have hgr':∀ b ys,Granted F (pre ++ .frz sz (some b) ys :: post) vs=Granted F (pre ++ .frz sz nl xs :: post) vs:=fun b ys=>by
  funext bb m
  exact propext (hgr b ys bb m)
 cases hb:nilV vs[pre.length] with
 | true=>
  have hx:=hf.frz_empty hb
  have hf':=hf.frz_nil
  rw [hb] at hf'
  have:=key true xs hf' (by subst hx;exact h1 rfl)
  rw [hgr'] at this
  exact this
 | false=>
  have hf':=hf.frz_nil
  rw [hb] at hf'
  have:=key false xs hf' h2
  rw [hgr'] at this
  exact this

section
open Go.ChangeShapes Go.WideShapes Go.ChangeAt Go.RowKit
section
variable {H:Type} {enc:TypeId × Value→H} {P:Program} {w:World} {spare:Nat→Bool} {held:Bool}
def old (w:World) (b:Nat):Prop:=b < w.heap.size
def Rd (enc:TypeId × Value→H) (P:Program) (w:World) (t:TypeId) (n:Nat) (Q:List AV→Prop):Prop:=
 P.cellsOf t=n∧∀ (fuel:Nat) (cs:List Value) (d:DataW H) (ps:List MemPlace),DataW.trod enc P w 0 (fun _=>true) true fuel t cs=some (d,ps)→
  cs.length=n∧∃ as:List AV,as.length=n∧Q as∧∀ (k:Nat) (a:AV) (v:Value),as[k]? = some a→cs[k]? = some v→FC w (old w) a v
theorem one_cell {a:AV} {v:Value} (h:FC w (old w) a v):∀ (k:Nat) (b:AV) (u:Value),[a][k]? = some b → [v][k]? = some u→FC w (old w) b u:=by
 intro k b u h1 h2
 cases k with
 | zero=>
  simp at h1 h2
  subst h1 h2
  exact h
 | succ k=>simp at h1
theorem Rd.int {t:TypeId} {k:IntKind} (ht:P.underlying t=some (.int k)) (hc:P.cellsOf t=1):Rd enc P w t 1 (fun as=>∃ n:Int,as = [.int k n]∧(Lit.int k n).wf=true):=by
 refine ⟨hc,fun fuel cs d ps h => ?_⟩
 cases fuel with
 | zero=>simp [DataW.trod] at h
 | succ m=>
  unfold DataW.trod at h
  rw [ht] at h
  split at h<;>simp_all
  obtain ⟨⟨rfl,hwf⟩,-,-⟩:=h
  exact ⟨_,rfl,⟨_,rfl,hwf⟩,one_cell (.int _ _)⟩
theorem Rd.bool {t:TypeId} (ht:P.underlying t=some .bool) (hc:P.cellsOf t=1):Rd enc P w t 1 (fun as=>∃ b:Bool,as = [.bool b]):=by
 refine ⟨hc,fun fuel cs d ps h => ?_⟩
 cases fuel with
 | zero=>simp [DataW.trod] at h
 | succ m=>
  unfold DataW.trod at h
  rw [ht] at h
  split at h<;>simp_all
  rename_i b
  exact ⟨[.bool b],rfl,by cases b<;>simp,one_cell (.bool _)⟩
theorem Rd.str {t:TypeId} (ht:P.underlying t=some .string) (hc:P.cellsOf t=1):Rd enc P w t 1 (fun as=>∃ l:List UInt8,as = [.str l]∧l.length≤maxLen):=by
 refine ⟨hc,fun fuel cs d ps h => ?_⟩
 cases fuel with
 | zero=>simp [DataW.trod] at h
 | succ m=>
  unfold DataW.trod at h
  rw [ht] at h
  split at h<;>simp_all
  rename_i s
  obtain ⟨hs,-,-⟩:=h
  exact ⟨_,rfl,⟨_,rfl,by simpa using hs⟩,one_cell (.str rfl)⟩
theorem cells?_get {a:Addr} {n:Nat} {cs:List Value} (h:w.cells? 0 a n=some cs):cs.length=n∧∀ j,j < n→w.cell? (a.add j)=cs[j]?:=by
 unfold World.cells? at h
 split at h
 ·rename_i hb
  refine ⟨by simpa using mapM_some_length h,fun j hj => ?_⟩
  have:=mapM_some_get h j j (by simp [hj])
  simpa using this
 ·cases h
theorem Rd.nil:∀ {xs:List (List AV)},(∀ x ∈ xs,False)→xs = []
 | [],_=>rfl
 | x :: xs,h=>(h x (by simp)).elim
theorem Rd.slice {t e:TypeId} {n:Nat} {Q:List AV→Prop} (ht:P.underlying t=some (.slice e)) (hc:P.cellsOf t=1) (hn:0 < n) (he:Rd enc P w e n Q) :
  Rd enc P w t 1 (fun as=>∃ xs:List (List AV),as = [.row n xs]∧xs.length≤maxLen∧∀ x ∈ xs,Q x):=by
 obtain ⟨hce,he⟩:=he
 refine ⟨hc,fun fuel cs d ps h => ?_⟩
 rcases DataW.trod_slice ht h with ⟨rfl,-⟩ | ⟨a,len,cap,elems,rest,m,rfl,rfl,-,-,hl,hm,hlen,hel,-,-⟩
 ·exact ⟨rfl,[.row n []],rfl,⟨[],rfl,by simp,by simp⟩,one_cell (.nil _)⟩
 ·rw [hce] at hel
  refine ⟨rfl,?_⟩
  -- each element
  have hget:∀ i,i < len→∃ cs as,w.cells? 0 (a.add (i * n)) n=some cs∧cs.length=n∧as.length=n∧Q as∧∀ (k:Nat) (x:AV) (v:Value),as[k]? = some x→cs[k]? = some v→FC w (old w) x v:=by
   intro i hi
   have h1:=hel i hi
   rw [List.getElem?_eq_getElem (by omega)] at h1
   rw [Option.bind_eq_some_iff] at h1
   obtain ⟨cs,h2,h3⟩:=h1
   obtain ⟨h4,as,h5,h6,h7⟩:=he m cs _ _ h3
   exact ⟨cs,as,h2,h4,h5,h6,h7⟩
  have hspot:0 < len→a.spot=none:=by
   intro h0
   obtain ⟨cs,as,h1,h2,-⟩:=hget 0 h0
   obtain ⟨h3,h4⟩:=cells?_get h1
   have h5:=h4 0 hn
   rw [List.getElem?_eq_getElem (by omega)] at h5
   have:=World.cell?_spot h5
   simpa [Addr.add] using this
  have hch:∀ i:_root_.Fin len,∃ as:List AV,∃ cs,w.cells? 0 (a.add (i * n)) n=some cs∧cs.length=n∧as.length=n∧Q as∧∀ (k:Nat) (x:AV) (v:Value),as[k]? = some x→cs[k]? = some v→FC w (old w) x v:=fun i=>by
   obtain ⟨cs,as,h⟩:=hget i i.2
   exact ⟨as,cs,h⟩
  obtain ⟨g,hg⟩:=Classical.axiomOfChoice hch
  have hxs:∀ (i:Nat) (c:List AV),(List.ofFn g)[i]? = some c→∃ hi:i < len,c=g ⟨i,hi⟩:=by
   intro i c hi
   rw [List.getElem?_ofFn] at hi
   split at hi
   ·rename_i h
    injection hi with hi
    exact ⟨h,hi.symm⟩
   ·cases hi
  refine ⟨[.row n (List.ofFn g)],rfl,⟨_,rfl,by simp;omega,?_⟩,one_cell ?_⟩
  ·intro x hx
   obtain ⟨i,hi⟩:=List.mem_iff_getElem?.1 hx
   obtain ⟨h1,rfl⟩:=hxs i x hi
   obtain ⟨cs,-,-,-,h2,-⟩:=hg ⟨i,h1⟩
   exact h2
  ·have key:=FC.row (w:=w) (S:=old w) (sz:=n) (xs:=List.ofFn g) (A:=a) (cap:=cap) (fun i j=>(w.cell? ⟨a.block,a.off + (i * n + j),none⟩).getD Go.undef) (by simp;omega)
    (fun i c hi=>by
     obtain ⟨h1,rfl⟩:=hxs i c hi
     obtain ⟨cs,-,-,h2,-⟩:=hg ⟨i,h1⟩
     exact h2)
    (fun i j c x hi hj=>by
     obtain ⟨h1,rfl⟩:=hxs i c hi
     obtain ⟨cs,h2,h3,h4,h5,h6⟩:=hg ⟨i,h1⟩
     have hs:=hspot (by omega)
     have hjn:j < n:=by rw [←h4];exact lt_len hj
     obtain ⟨h7,h8⟩:=cells?_get h2
     have h9:=h8 j hjn
     rw [List.getElem?_eq_getElem (by omega)] at h9
     have h10:(a.add (i * n)).add j=⟨a.block,a.off + (i * n + j),none⟩:=by
      cases a with
      | mk b o s=>
       simp only at hs
       subst hs
       simp only [Addr.add]
       split<;>split<;>simp_all [Nat.add_assoc]
     rw [h10] at h9
     exact ⟨hs,lt_of_cell h9,by simp [h9]⟩)
    (fun i j c x hi hj=>by
     obtain ⟨h1,rfl⟩:=hxs i c hi
     obtain ⟨cs,h2,h3,h4,h5,h6⟩:=hg ⟨i,h1⟩
     have hs:=hspot (by omega)
     have hjn:j < n:=by rw [←h4];exact lt_len hj
     obtain ⟨h7,h8⟩:=cells?_get h2
     have h9:=h8 j hjn
     rw [List.getElem?_eq_getElem (by omega)] at h9
     have h10:(a.add (i * n)).add j=⟨a.block,a.off + (i * n + j),none⟩:=by
      cases a with
      | mk b o s=>
       simp only at hs
       subst hs
       simp only [Addr.add]
       split<;>split<;>simp_all [Nat.add_assoc]
     rw [h10] at h9
     rw [h9]
     exact h6 j x _ hj (List.getElem?_eq_getElem (by omega)))
   rw [List.length_ofFn] at key
   exact key
theorem mapM_of_get {α β:Type} {f:α→Option β}:∀ {l:List α} {r:List β},r.length=l.length→(∀ (i:Nat) (x:α),l[i]? = some x→f x=r[i]?)→l.mapM f=some r
 | [],r,hn,_=>by
  have:r = []:=List.length_eq_zero_iff.1 (by simpa using hn)
  subst this
  rfl
 | x :: l,[],hn,_=>by simp at hn
 | x :: l,y :: r,hn,h=>by
  have h0:=h 0 x rfl
  have h1:=mapM_of_get (f:=f) (l:=l) (r:=r) (by simpa using hn) (fun i z hz=>by simpa using h (i + 1) z (by simpa using hz))
  simp at h0
  simp [List.mapM_cons,h0,h1]
inductive Rds (enc:TypeId × Value→H) (P:Program) (w:World):Nat→List Field→Nat→(List AV→Prop)→Prop
 | nil {o}:Rds enc P w o [] 0 (fun as=>as = [])
 | cons {o:Nat} {f:Field} {fs:List Field} {n m:Nat} {Q R:List AV→Prop} (h:Rd enc P w f.type n Q) (hs:Rds enc P w (o + n) fs m R) (ho:f.offset=o) :
   Rds enc P w o (f :: fs) (n + m) (fun as=>∃ xs ys,as=xs++ys∧Q xs∧R ys)
theorem Rds.read {fs:List Field} {o n:Nat} {Q:List AV→Prop} (h:Rds enc P w o fs n Q):∀ (m:Nat) (cs:List Value) (xs:List (DataW H × List MemPlace)),
  fs.mapM (fun f=>DataW.trod enc P w 0 (fun _=>true) true m f.type ((cs.drop f.offset).take (P.cellsOf f.type)))=some xs→
  (n=0∨o + n≤cs.length)∧∃ as:List AV,as.length=n∧Q as∧∀ (k:Nat) (a:AV) (v:Value),as[k]? = some a→cs[o + k]? = some v→FC w (old w) a v:=by
 induction h with
 | nil=>intro m cs xs _;exact ⟨.inl rfl,[],rfl,rfl,by simp⟩
 | @cons o f fs n m' Q R h hs ho ih=>
  intro m cs xs hx
  simp only [List.mapM_cons,bind,Option.bind_eq_some_iff,pure] at hx
  obtain ⟨x,h1,ys,h2,h3⟩:=hx
  obtain ⟨hc,h⟩:=h
  rw [hc,ho] at h1
  obtain ⟨d,ps⟩:=x
  obtain ⟨h4,as,h5,h6,h7⟩:=h m _ d ps h1
  obtain ⟨h8,bs,h9,h10,h11⟩:=ih m cs ys h2
  have hl:n=0∨o + n≤cs.length:=by
   simp at h4
   omega
  refine ⟨by omega,as++bs,by simp [h5,h9],⟨as,bs,rfl,h6,h10⟩,fun k a v hk hv => ?_⟩
  rw [List.getElem?_append] at hk
  split at hk
  ·rename_i hlt
   refine h7 k a v hk ?_
   rw [List.getElem?_take,if_pos (by omega),List.getElem?_drop]
   exact hv
  ·rename_i hlt
   refine h11 (k - as.length) a v hk ?_
   rw [show o + n + (k - as.length)=o + k by omega]
   exact hv
theorem Rd.struct {t:TypeId} {fs:List Field} {n:Nat} {Q:List AV→Prop} (ht:P.underlying t=some (.struct fs.toArray)) (h:Rds enc P w 0 fs n Q) (hc:P.cellsOf t=n):Rd enc P w t n Q:=by
 refine ⟨hc,fun fuel cs d ps hd => ?_⟩
 cases fuel with
 | zero=>simp [DataW.trod] at hd
 | succ m=>
  obtain ⟨xs,m',hm,-,hl,hn,hx⟩:=DataW.trod_struct ht hd
  obtain rfl:m=m':=by omega
  have hx':fs.mapM (fun f=>DataW.trod enc P w 0 (fun _=>true) true m f.type ((cs.drop f.offset).take (P.cellsOf f.type)))=some xs:=
   mapM_of_get (by simpa using hn) fun i f hi=>hx i f (by simpa using hi)
  obtain ⟨-,as,h1,h2,h3⟩:=h.read m _ xs hx'
  exact ⟨by rw [hl,hc],as,h1,h2,fun k a v hk hv=>h3 k a v hk (by simpa using hv)⟩
theorem Rd.mono {t:TypeId} {n:Nat} {Q R:List AV→Prop} (h:Rd enc P w t n Q) (hq:∀ as,Q as→R as):Rd enc P w t n R:=
 ⟨h.1,fun fuel cs d ps hd=>by
  obtain ⟨h1,as,h2,h3,h4⟩:=h.2 fuel cs d ps hd
  exact ⟨h1,as,h2,hq as h3,h4⟩⟩
theorem all_map {α:Type} {c:α→List AV} {W:α→Prop}:∀ {xs:List (List AV)},(∀ x ∈ xs,∃ y,x=c y∧W y)→∃ ys:List α,xs=ys.map c∧∀ y ∈ ys,W y
 | [],_=>⟨[],rfl,by simp⟩
 | x :: xs,h=>by
  obtain ⟨ys,h1,h2⟩:=all_map (c:=c) (W:=W) (xs:=xs) (fun x hx=>h x (by simp [hx]))
  obtain ⟨y,h3,h4⟩:=h x (by simp)
  refine ⟨y :: ys,by simp [h1,h3],fun z hz => ?_⟩
  rcases List.mem_cons.1 hz with rfl | hz
  ·exact h4
  ·exact h2 z hz
theorem Rd.slice_of {α:Type} {c:α→List AV} {W:α→Prop} {t e:TypeId} {n:Nat} (ht:P.underlying t=some (.slice e)) (hc:P.cellsOf t=1) (hn:0 < n) (he:Rd enc P w e n (fun as=>∃ y,as=c y∧W y)) :
  Rd enc P w t 1 (fun as=>∃ ys:List α,as = [.row n (ys.map c)]∧ys.length≤maxLen∧∀ y ∈ ys,W y):=
 (Rd.slice ht hc hn he).mono fun as ⟨xs,h1,h2,h3⟩=>by
  obtain ⟨ys,rfl,h4⟩:=all_map h3
  exact ⟨ys,h1,by simpa using h2,h4⟩
theorem FC.fv {a:AV} {v:Value} (h:FC w (old w) a v):FV w (old w) (frzOf a) v:=by
 cases h with
 | int=>exact .int _ _
 | bool=>exact .bool _
 | str h=>exact .str h
 | unk h=>exact .unk h
 | nil=>exact .frz (.nil _) (by simp)
 | row vs h1 h2 h3 h4=>exact .frz (.row vs h1 h2 h3 h4) (by simp)
theorem Rd.val {t:TypeId} {Q:List AV→Prop} (h:Rd enc P w t 1 Q) {v:Value} {d:DataW H} {ps:List MemPlace} (hd:DataW.Trod enc P w 0 (fun _=>true) true t v d ps) (hv:v.cells = #[v]):∃ a,Q [a]∧FV w (old w) (frzOf a) v:=by
 obtain ⟨fuel,hd⟩:=hd
 rw [hv] at hd
 obtain ⟨h1,as,h2,h3,h4⟩:=h.2 fuel _ d ps hd
 obtain ⟨a,rfl⟩:∃ a,as = [a]:=by
  match as,h2 with
  | [a],_=>exact ⟨a,rfl⟩
 exact ⟨a,h3,(h4 0 a v rfl rfl).fv⟩
theorem Rd.agg {t:TypeId} {n:Nat} {Q:List AV→Prop} (h:Rd enc P w t n Q) {cs:Array Value} {d:DataW H} {ps:List MemPlace} (hd:DataW.Trod enc P w 0 (fun _=>true) true t (.agg cs) d ps):∃ as,Q as∧FV w (old w) (.agg (as.map frzOf)) (.agg cs):=by
 obtain ⟨fuel,hd⟩:=hd
 obtain ⟨h1,as,h2,h3,h4⟩:=h.2 fuel _ d ps hd
 have h1':cs.size=n:=by simpa [Value.cells] using h1
 refine ⟨as,h3, .agg (by simp [h1',h2]) (fun k a v hk hv => ?_)⟩
 rw [List.getElem?_map] at hk
 cases hak:as[k]? with
 | none=>rw [hak] at hk;cases hk
 | some b=>
  rw [hak] at hk
  simp only [Option.map_some,Option.some.injEq] at hk
  subst hk
  exact (h4 k b v hak (by simpa [Value.cells] using hv)).fv
end

end
section
open Go.ChangeShapes Go.WideShapes Go.ChangeAt Go.RowKit
theorem snd_calls {P:Program} {f:FuncId} {fn:Func} {args outs:List AV} (h:Snd P f args (.bool true) outs) (hf:P.funcs[f]? = some fn) (hb:fn.body.isSome=true) (hn:(fn.name == "runtime.NumGoroutine")=false) {W:World} {vs:List Value}
  (hl:vs.length=args.length) (ha:∀ (k:Nat) (a:AV) (v:Value),args[k]? = some a→vs[k]? = some v→FV W (old W) a v):Calls P f vs.toArray W fun e w'=>e = .returned (.bool true)∧Below W.heap.size W w':=by
 have hd:=h.2 W (old W) vs (fun _ _=>False) hl (fun b hb=>hb) (fun _ _ _ h=>h.elim) (fun _ _ h=>h.elim) (fun k a v h1 h2=>(ha k a v h1 h2).argR.1)
 rcases hd with ⟨-,hc⟩ | ⟨v,w',hc,-⟩
 ·refine hc.mono fun e w' hx => ?_
  obtain ⟨v,he,⟨h1,h2,h3,h4,h5⟩,G,-,-,hr,-⟩:=hx
  have hv:v = .bool true:=by
   have:FV w' (old W) (.bool true) v:=hr
   cases this
   rfl
  subst hv
  refine ⟨he,h1,h2,h3,h4,fun b hb => ?_⟩
  exact (h5 b hb).eq fun q ⟨k,a,u,g1,g2,g3⟩=>(ha k a u g1 g2).argR (F:=fun _=>False) |>.2 b q g3
 ·exfalso
  cases hbb:fn.body with
  | none=>rw [hbb] at hb;cases hb
  | some c=>
   have:(callFunc f vs.toArray).run P W = .ok (.enter f vs.toArray) W:=by
    simp [callFunc,go_sem,hf,hbb]
    simpa using hn
   rw [this] at hc
   cases hc
theorem trodAll_stays {H:Type} {enc:TypeId × Value→H} {P:Program} (hl:laidOutB P=true) {W W':World} (hb:Below W.heap.size W W'):∀ {ts:List TypeId} {vs:List Value} {ds:List (DataW H)} {ps:List MemPlace},
  ts.all (fun t=>P.readableRec t && decide (t < P.types.size))=true→DataW.TrodAll enc P W 0 (fun _=>true) true ts vs ds ps→DataW.TrodAll enc P W' 0 (fun b=>decide (b < W.heap.size)) true ts vs ds ps
 | [],vs,ds,ps,_,h=>by
  obtain ⟨rfl,rfl,rfl⟩:=trodAll_nil h
  exact trodAll_mk0
 | t :: ts,vs,ds,ps,hr,h=>by
  obtain ⟨v,vs',d,ds',p,q,rfl,rfl,rfl,h1,h2⟩:=trodAll_cons h
  simp only [List.all_cons,Bool.and_eq_true,decide_eq_true_eq] at hr
  refine trodAll_cons_mk (Below.trod hl hr.1.1 hr.1.2 h1 hb ?_) (trodAll_stays hl hb hr.2 h2)
  obtain ⟨m,hm⟩:=h1
  exact DataW.trod_lt m _ _ _ hm
theorem trodAll_len {H:Type} {enc:TypeId × Value→H} {P:Program} {W:World}:∀ {ts:List TypeId} {vs:List Value} {ds:List (DataW H)} {ps:List MemPlace},
  DataW.TrodAll enc P W 0 (fun _=>true) true ts vs ds ps→vs.length=ts.length∧ds.length=ts.length
 | [],vs,ds,ps,h=>by
  obtain ⟨rfl,rfl,rfl⟩:=trodAll_nil h
  exact ⟨rfl,rfl⟩
 | t :: ts,vs,ds,ps,h=>by
  obtain ⟨v,vs',d,ds',p,q,rfl,rfl,rfl,h1,h2⟩:=trodAll_cons h
  have:=trodAll_len h2
  simp [this.1,this.2]
def Arg {H:Type} (enc:TypeId × Value→H) (P:Program) (W:World) (t:TypeId) (Q:AV→Prop):Prop:=
 ∀ (base:Nat) (v:Value) (d:DataW H) (ps:List MemPlace),DataW.Trod enc P W 0 (fun _=>true) true t v d ps→Value.okWide P W .any base t v→∃ a,Q a∧FV W (old W) a v
theorem Arg.struct {H:Type} {enc:TypeId × Value→H} {P:Program} {W:World} {t:TypeId} {fs:Array Field} {n:Nat} {Q:List AV→Prop} (ht:P.underlying t=some (.struct fs)) (h:Rd enc P W t n Q):Arg enc P W t (fun a=>∃ as,Q as∧a = .agg (as.map frzOf)):=by
 intro base v d ps hd hok
 unfold Value.okWide at hok
 rw [ht] at hok
 obtain ⟨cs,rfl,-,-⟩:=hok
 obtain ⟨as,h1,h2⟩:=h.agg hd
 exact ⟨_,⟨as,h1,rfl⟩,h2⟩
theorem Arg.slice {H:Type} {enc:TypeId × Value→H} {P:Program} {W:World} {t e:TypeId} {Q:List AV→Prop} (ht:P.underlying t=some (.slice e)) (h:Rd enc P W t 1 Q):Arg enc P W t (fun a=>∃ b,Q [b]∧a=frzOf b):=by
 intro base v d ps hd hok
 obtain ⟨a,len,cap,rfl⟩:=okWide_slice ht hok
 obtain ⟨b,h1,h2⟩:=h.val hd rfl
 exact ⟨_,⟨b,h1,rfl⟩,h2⟩
theorem Arg.int {H:Type} {enc:TypeId × Value→H} {P:Program} {W:World} {t:TypeId} {k:IntKind} (ht:P.underlying t=some (.int k)):Arg enc P W t (fun a=>∃ n:Int,a = .int k n∧(Lit.int k n).wf=true):=by
 intro base v d ps hd hok
 obtain ⟨n,rfl,-,-,h⟩:=open_int ht hok hd
 exact ⟨_,⟨n,rfl,h⟩, .int _ _⟩
theorem Arg.bool {H:Type} {enc:TypeId × Value→H} {P:Program} {W:World} {t:TypeId} (ht:P.underlying t=some .bool):Arg enc P W t (fun a=>∃ b:Bool,a = .bool b):=by
 intro base v d ps hd hok
 obtain ⟨b,rfl,-,-⟩:=open_bool ht hok hd
 exact ⟨_,⟨b,rfl⟩, .bool _⟩
theorem Arg.str {H:Type} {enc:TypeId × Value→H} {P:Program} {W:World} {t:TypeId} (ht:P.underlying t=some .string):Arg enc P W t (fun a=>∃ l:List UInt8,a = .str l∧l.length≤maxLen):=by
 intro base v d ps hd hok
 obtain ⟨s,rfl,-,-,h⟩:=ChangeMaps.open_string ht hok hd
 exact ⟨_,⟨s.data.toList,rfl,by simpa using h⟩, .str rfl⟩
theorem Arg.mono {H:Type} {enc:TypeId × Value→H} {P:Program} {W:World} {t:TypeId} {Q R:AV→Prop} (h:Arg enc P W t Q) (hq:∀ a,Q a→R a):Arg enc P W t R:=fun base v d ps hd hok=>by
 obtain ⟨a,h1,h2⟩:=h base v d ps hd hok
 exact ⟨a,hq a h1,h2⟩
inductive Args {H:Type} (enc:TypeId × Value→H) (P:Program) (W:World):List TypeId→(List AV→Prop)→Prop
 | nil:Args enc P W [] (fun as=>as = [])
 | cons {t:TypeId} {ts:List TypeId} {Q:AV→Prop} {R:List AV→Prop} (h:Arg enc P W t Q) (hs:Args enc P W ts R):Args enc P W (t :: ts) (fun as=>∃ a bs,as=a :: bs∧Q a∧R bs)
theorem Args.read {H:Type} {enc:TypeId × Value→H} {P:Program} {W:World} {ts:List TypeId} {R:List AV→Prop} (h:Args enc P W ts R):∀ {vs:List Value} {ds:List (DataW H)} {ps:List MemPlace} (base:Nat),
  DataW.TrodAll enc P W 0 (fun _=>true) true ts vs ds ps→(∀ (j:Nat) t v,ts[j]? = some t→vs[j]? = some v→Value.okWide P W .any base t v)→∃ as,R as∧vs.length=as.length∧∀ (k:Nat) (a:AV) (v:Value),as[k]? = some a→vs[k]? = some v→FV W (old W) a v:=by
 induction h with
 | nil=>
  intro vs ds ps base h _
  obtain ⟨rfl,rfl,rfl⟩:=trodAll_nil h
  exact ⟨[],rfl,rfl,by simp⟩
 | cons h hs ih=>
  intro vs ds ps base ht hok
  obtain ⟨v,vs',d,ds',p,q,rfl,rfl,rfl,h1,h2⟩:=trodAll_cons ht
  obtain ⟨a,h3,h4⟩:=h base v d p h1 (hok 0 _ v rfl rfl)
  obtain ⟨as,h5,h6,h7⟩:=ih base h2 (fun j t v hj hv=>hok (j + 1) t v (by simpa using hj) (by simpa using hv))
  refine ⟨a :: as,⟨a,as,rfl,h3,h5⟩,by simp [h6],fun k b u hk hu => ?_⟩
  cases k with
  | zero=>
   simp at hk hu
   subst hk hu
   exact h4
  | succ k=>exact h7 k b u (by simpa using hk) (by simpa using hu)
def ArgsM {H:Type} (enc:TypeId × Value→H) (P:Program) (W:World) (ts:List TypeId) (R:List AV→Prop):Prop:=∃ Q,Args enc P W ts Q∧∀ as,Q as→R as
theorem Args.mono {H:Type} {enc:TypeId × Value→H} {P:Program} {W:World} {ts:List TypeId} {Q R:List AV→Prop} (h:Args enc P W ts Q) (hq:∀ as,Q as→R as):ArgsM enc P W ts R:=⟨Q,h,hq⟩
theorem law_lifted {C:Checked} {os:Os} {f:FuncId} {fn:Func} {s:ChangeSpec} {H:Type} (enc:TypeId × Value→H) (own:ownKnob C.prog.godebug=none) (started:os.Started) (noInit:C.prog.inits.idxOf? f=none) (hfn:C.prog.funcs[f]? = some fn)
  (hb:fn.body.isSome=true) (hn:(fn.name == "runtime.NumGoroutine")=false) (laid:laidOutB C.prog=true) (hvars:s.vars = [])
  (hread:fn.params.toList.all (fun t=>C.prog.readableRec t && decide (t < C.prog.types.size))=true) {bt:TypeId} (hrt:fn.resultTypes = #[bt]) (hbt:C.prog.underlying bt=some .bool)
  (hspec:∀ ds:List (DataW H),ds.length=fn.params.toList.length→s.fn H ds={ results := [.lit (.bool true)],args:=ds })
  (witness:∃ (w:World) (tape:Tape) (i:Input),w.os=os∧(w.forCall tape i).Shaped C.prog∧i.vars = []∧Input.okWide C.prog (w.forCall tape i) .any w.heap.size f i∧
   s.pre6 enc C.prog fn [] false (w.forCall tape i).memory i.args∧Assume.holds {} C.prog (lone (Frame.enter C.prog f i.args .normal) [] (w.forCall tape i)))
  {R:List AV→Prop} (hargs:∀ W:World,ArgsM enc C.prog W fn.params.toList R) (law:∀ as,R as→∃ outs,Snd C.prog f as (.bool true) outs) :
  ReturnsInHanded {} C os f .any (s.pre6 enc C.prog fn [] false) (s.post enc C.prog fn false true false false):=by
 refine returnsInHanded_of_change_sized (C:=C) own started noInit hfn witness ?_
 intro W base args ds gs before hval hW hcnd hsz _
 have hW':=hW
 obtain ⟨p,q,hA,hV,rfl,hfz,hnd⟩:=hW
 rw [hvars] at hV
 obtain ⟨rfl,rfl⟩:=trodVars_none hV
 obtain ⟨Q,hargs,hq⟩:=hargs W
 obtain ⟨as,h0,h2,h3⟩:=hargs.read base hA (fun j t v hj hv=>hval j t v (by simpa using hj) (by simpa using hv))
 have h1:=hq as h0
 obtain ⟨outs,hs⟩:=law as h1
 have hc:=snd_calls hs hfn hb hn h2 h3
 refine hc.mono fun e W' ⟨he,bel⟩ => ?_
 subst he
 have hl:=(trodAll_len hA).2
 refine ⟨_,rfl,ds,[],p ++ [],[],p,[],hW',?_,?_,?_,bel.frame _,fun h=>by cases h⟩
 ·rw [List.append_nil,hspec ds hl,hrt]
  exact trodAll_mk1 (shut_bool hbt _)
 ·rw [List.append_nil,hspec ds hl]
  exact trodAll_stays laid bel hread hA
 ·rw [List.append_nil,hspec ds hl,hvars]
  rfl

end
def zeroB:AV→Value→Bool
 | .int k n, .int k' n'=>decide (k'=k) && decide (n'=n)
 | .bool b, .bool b'=>decide (b'=b)
 | .str l, .string s=>decide (s.data.toList=l)
 | .frz _ nl xs, .slice a n c=>a.isNone && decide (n=0) && decide (c=0) && (match nl with | some true=>true | _=>false) && isNilL xs
 | .nilp, .pointer a=>a.isNone
 | .unk,v=>v.oneCell'
 | _,_=>false
theorem zeroB_ok {a:AV} {v:Value} (h:zeroB a v=true):ZeroOK a v:=by
 cases a<;>cases v<;>simp only [zeroB,ZeroOK,Bool.and_eq_true,decide_eq_true_eq] at h ⊢<;>try (first | exact h | cases h;done)
 ·obtain ⟨⟨⟨⟨h1,h2⟩,h3⟩,h4⟩,h5⟩:=h
  refine ⟨by simpa using h1,h2,h3,?_,isNilL_eq h5⟩
  rename_i sz nl xs _ _ _
  match nl,h4 with
  | some true,_=>rfl
  | some false,h4=>cases h4
  | none,h4=>cases h4
 ·simpa using h
def fieldsB (P:Program):List Field→Bool
 | []=>true
 | f :: fs=>(match P.info? f.type with | some i=>decide (i.size≠0) | none=>false) && fieldsB P fs
def eqTyB (P:Program) (t:TypeId) (fields:Array Field):Bool:=
 !(P.stoodInHeld t) && !(P.eqGuardType P.depth t) && fields.toList.all (fun f=>decide (f.name≠"_")) && decide (fields.toList.map (·.offset)=List.range fields.size)
def kB (P:Program) (t:TypeId):TK→TypeDesc→Bool
 | .int k, .int k'=>decide (k'=k)
 | .bool, .bool=>true
 | .str, .string=>true
 | .slice e, .slice e'=>decide (e'=e)
 | .struct fs eq, .struct fields=>decide (fields.toList.map (fun f=>(f.offset,f.type))=fs) && fieldsB P fields.toList && (!eq || eqTyB P t fields)
 | .arr n e, .array n' e'=>decide (n'=n) && decide (e'=e)
 | .ptr e, .pointer e'=>decide (e'=e)
 | .other, .func ..=>true
 | _,_=>false
theorem fieldsB_ok {P:Program}:∀ {fs:List Field},fieldsB P fs=true→∀ f ∈ fs,∃ i,P.info? f.type=some i∧i.size≠0
 | [],_=>by simp
 | f :: fs,h=>by
  simp only [fieldsB,Bool.and_eq_true] at h
  intro g hg
  rcases List.mem_cons.1 hg with rfl | hg
  ·have h1:=h.1
   split at h1
   ·rename_i i hi
    exact ⟨i,hi,by simpa using h1⟩
   ·cases h1
  ·exact fieldsB_ok h.2 g hg
theorem kB_ok {P:Program} {t:TypeId} {k:TK} {d:TypeDesc} (h:kB P t k d=true):KOK P t k d:=by
 cases k<;>cases d<;>simp only [kB,KOK,Bool.and_eq_true,decide_eq_true_eq] at h ⊢<;>try (first | exact h | cases h;done)
 obtain ⟨⟨h1,h2⟩,h3⟩:=h
 refine ⟨h1,fieldsB_ok h2,fun he => ?_⟩
 subst he
 simp only [Bool.not_true,Bool.false_or,eqTyB,Bool.and_eq_true,Bool.not_eq_true',List.all_eq_true,decide_eq_true_eq] at h3
 exact ⟨h3.1.1.1,h3.1.1.2,h3.1.2,h3.2⟩
def zerosB:List AV→List Value→Bool
 | [],[]=>true
 | a :: as,v :: vs=>zeroB a v && zerosB as vs
 | _,_=>false
theorem zerosB_ok:∀ {as:List AV} {vs:List Value},zerosB as vs=true→as.length=vs.length∧∀ (k:Nat) (a:AV) (v:Value),as[k]? = some a→vs[k]? = some v→ZeroOK a v
 | [],[],_=>by simp
 | a :: as,v :: vs,h=>by
  simp only [zerosB,Bool.and_eq_true] at h
  obtain ⟨h1,h2⟩:=zerosB_ok h.2
  refine ⟨by simp [h1],fun k b u hk hu => ?_⟩
  cases k with
  | zero=>
   simp at hk hu
   subst hk hu
   exact zeroB_ok h.1
  | succ k=>exact h2 k b u (by simpa using hk) (by simpa using hu)
 | [],_ :: _,h=>by cases h
 | _ :: _,[],h=>by cases h
def tiB (P:Program) (t:TypeId) (ti:TI):Bool:=match P.info? t,P.underlying t with
 | some i,some d=>match i.zero with
  | some z=>decide (i.size=ti.size) && decide (i.bytes≤65536) && decide (z.cells.size=ti.size) && zerosB ti.zero z.cells.toList && kB P t ti.k d
  | none=>false
 | _,_=>false
theorem tiB_ok {P:Program} {t:TypeId} {ti:TI} (h:tiB P t ti=true):∃ i d z,TIok P t ti i d z:=by
 unfold tiB at h
 split at h
 ·rename_i i d h1 h2
  split at h
  ·rename_i z h3
   simp only [Bool.and_eq_true,decide_eq_true_eq] at h
   obtain ⟨⟨⟨⟨h4,h5⟩,h6⟩,h7⟩,h8⟩:=h
   obtain ⟨h9,h10⟩:=zerosB_ok h7
   exact ⟨i,d,z,h1,h2,h3,h4,h5,h6,by rw [h9];simpa using h6,fun k a v hk hv=>h10 k a v hk (by simpa using hv),kB_ok h8⟩
  ·cases h
 ·cases h
def tab (rows:List (TypeId × TI)):Types:=fun t=>look t rows
def tabB (P:Program):List (TypeId × TI)→Bool
 | []=>true
 |(t,ti) :: r=>tiB P t ti && tabB P r
theorem tabB_ok {P:Program}:∀ {rows:List (TypeId × TI)},tabB P rows=true→TOk P (tab rows)
 | [],_,t,ti,h=>by simp [tab,look] at h
 |(u,tu) :: r,hb,t,ti,h=>by
  simp only [tabB,Bool.and_eq_true] at hb
  simp only [tab,look] at h
  split at h
  ·rename_i e
   injection h with h
   subst e h
   exact tiB_ok hb.1
  ·exact tabB_ok hb.2 t ti h
def Con (P:Program):FuncId→List AV→AV→List AV→Prop:=fun f as res outs=>Snd P f as res outs
theorem con_sound {P:Program}:Sound P (Con P):=fun _ _ _ _ h=>h
def modes (rows:List (FuncId × List (Bool × Nat))):Modes:=fun f=>(look f rows).getD []

theorem pick_t {a b:Option AV}:pickAV (some (.bool true)) a b=pure1 a:=rfl
theorem pick_f {a b:Option AV}:pickAV (some (.bool false)) a b=pure1 b:=rfl
theorem pick_yes {p:Prop} [Decidable p] {a b:Option AV} (h:p):pickAV (some (.bool (decide p))) a b=pure1 a:=by rw [decide_eq_true h,pick_t]
theorem pick_no {p:Prop} [Decidable p] {a b:Option AV} (h:¬ p):pickAV (some (.bool (decide p))) a b=pure1 b:=by rw [decide_eq_false h,pick_f]
theorem pick_nyes {p:Prop} [Decidable p] {a b:Option AV} (h:p):pickAV (some (.bool (!decide p))) a b=pure1 b:=by rw [decide_eq_true h];rfl
theorem pick_nno {p:Prop} [Decidable p] {a b:Option AV} (h:¬ p):pickAV (some (.bool (!decide p))) a b=pure1 a:=by rw [decide_eq_false h];rfl
theorem pick_is_t {t:Bool} {a b:Option AV} (h:t=true):pickAV (some (.bool t)) a b=pure1 a:=by rw [h];rfl
theorem pick_is_f {t:Bool} {a b:Option AV} (h:t=false):pickAV (some (.bool t)) a b=pure1 b:=by rw [h];rfl
theorem pick_nis_t {t:Bool} {a b:Option AV} (h:t=true):pickAV (some (.bool (!t))) a b=pure1 b:=by rw [h];rfl
theorem pick_nis_f {t:Bool} {a b:Option AV} (h:t=false):pickAV (some (.bool (!t))) a b=pure1 a:=by rw [h];rfl
theorem iteE_yes {c:Prop} [Decidable c] {a b:Option Eff} (h:c):(if c then a else b)=a:=if_pos h
theorem iteP_yes {c:Prop} [Decidable c] {a b:Option (Int × Int)} (h:c):(if c then a else b)=a:=if_pos h
theorem iteA_yes {c:Prop} [Decidable c] {a b:Option AV} (h:c):(if c then a else b)=a:=if_pos h
attribute [simp] LIM iteE_yes iteA_yes iteP_yes
attribute [simp] AGd_is_t AGd_is_f AGd_nis_t AGd_nis_f ABr_is_t ABr_is_f pick_is_t pick_is_f pick_nis_t pick_nis_f
attribute [simp] enter enter1 enterCells aop St.ev constAV look pure1 St.apply St.skip applyWr put putT del absLen evList absBin intBin finish keeps keepT memR clean absUn strBin appendAV copyAV copyInto copySrc appendTo appendRes source stays loadAV storeAV indexAddrAV fieldAddrAV fieldAV convertAV sliceAV indexAV isNilS isNilP nilOp eqFs evParts fillStruct fillSlice intakes intake intakeAt intakesAt isRow rowsAt gone toRow elems elemsTaken flatCell flatC TI.flat TI.isAgg wrap1 cellsOf plain refOf frzOf setCells getRow getChunk subRow setSub storable disj passOK nodupR mat mat1 matCells matList passAll passR passW isFp cellR cellsR capR capsR cellW cellsW backAll backW backCell backCells outCells cellRoots rid1 rid2 rids ridsT ridsH ridsBox reach1 more keepH gc renT renH renamed wantsT scrubT scrubH ren1 ren2 ren renRoot mentions rename isTemp wantsCells wants renames stale1 scrub1 scrub2 scrub scrubRoot scrubAll lost lostCells lost1 lostT homes homed keepOnly behind behindTest guardAV calleeAV callEff dang dang1 dangT matA ppRes lastWr ppEnds isWptr hasFrz0 hasFrz1 hasFrz isNilL rv rt leaveCell leaveCells leave1 leaveList out1 outs resVals results resultsA ptrRes noGrant wkC wkCs wk1 wks wk wko1 wko Ends Fin eqCell eqCells minInt maxInt shiftBin optOp sliceBounds Runs
attribute [simp high] ABr_true ABr_false ABr_not ABr_yes ABr_no AGd_tt AGd_ff AGd_tf AGd_ft AGd_yes AGd_no AGd_nyes AGd_nno pick_nyes pick_nno pick_t pick_f pick_yes pick_no
attribute [simp] A_skip A_ret A_exit A_region A_seq A_block A_loop A_cond PK_nil PK_code_norm PK_code_exit PK_code_ret PK_block_norm PK_block_exit PK_block_ret PK_again_norm PK_again_exit PK_again_ret AO_nil_quiet AO_cons AO_cons_guard AX_call AE_some AE_none AX_move AX_assign AX_pick AX_alloc AX_box AX_build AX_buildSlice AX_makeSlice AX_load AX_store AX_nilCheck AX_fieldAddr AX_field AX_indexAddr AX_index AX_slice AX_binOp AX_unOp AX_convert AX_makeFunc AX_extract AX_builtin
theorem awp_A {T:Types} {M:Modes} {C:FuncId→List AV→AV→List AV→Prop} {c:Cfg} {d:Code} {s:St} {Q:Out→Prop}:awp T M C c d s Q=A T M C c Q d [] s:=rfl
section
variable {T:Types} {M:Modes} {C:FuncId→List AV→AV→List AV→Prop} {c:Cfg} {F:Out→Prop}
theorem AL_ind {ι:Type} {b:Code} {K:List Fr} {s:St} (m:ι→Nat) (S:ι→St) (I:ι→Prop) (x0:ι) (h0:s=S x0) (hI:I x0)
  (step:∀ x n,I x→(∀ y,I y→m y < m x→AR T M C c F b K n (S y))→A T M C c F b (.again b n :: K) (S x)):AL T M C c F b K s:=by
 have key:∀ n x,I x→m x < n→AR T M C c F b K n (S x):=by
  intro n
  induction n with
  | zero=>intro x _ h;omega
  | succ n ih=>
   intro x hx hn
   rw [AR_succ]
   exact step x n hx fun y hy hm=>ih y hy (by omega)
 subst h0
 exact AL_of (m x0 + 1) (key _ _ hI (by omega))
end
theorem of_indep {all:Array Oper} {l:Log} (h:indep all l=true):indep all l=true:=h
theorem AO_draw {T:Types} {M:Modes} {C:FuncId→List AV→AV→List AV→Prop} {c:Cfg} {F:Out→Prop} {all:Array Oper} {i:Nat} {l:Log} {K:List Fr} {s:St} (h:indep all l=true):AO T M C c F all true [] i l K s=PK T M C c F K (.norm (finish c s)):=by
 rw [AO_nil_draw]
 simp [IndepOK,h]
theorem wrap64_in {x:Int} (h : -9223372036854775808≤x) (h':x < 9223372036854775808):IntKind.wrap .i64 x=x:=by
 simp only [IntKind.wrap,IntKind.signed,IntKind.bits]
 simp
 omega
theorem wrap8_in {x:Int} (h:0≤x) (h':x < 256):IntKind.wrap .u8 x=x:=by
 simp only [IntKind.wrap,IntKind.signed,IntKind.bits]
 simp
 omega
theorem tmod_nn {a b:Int} (h:0≤a):a.tmod b=a % b:=Int.tmod_eq_emod_of_nonneg h
theorem tdiv_nn {a b:Int} (h:0≤a):a.tdiv b=a / b:=Int.tdiv_eq_ediv_of_nonneg h
attribute [simp] bytesToList awp_A AO_draw wrap64_in wrap8_in tmod_nn tdiv_nn
theorem AC_snd {P:Program} {T:Types} {M:Modes} {c:Cfg} {F:Out→Prop} {f:FuncId} {as:List AV} {rs ws:List Rid} {args:List AV} {all:Array Oper} {draw:Bool} {dst:Option Tmp} {os:List Oper} {i:Nat} {l:Log} {K:List Fr} {s:St} {res:AV} {outs:List AV} (h:Snd P f as res outs)
  (hk:AE T M (Con P) c F all draw dst os i l K s (callEff M s i f args rs ws res outs)):AC T M (Con P) c F f as rs ws args all draw dst os i l K s:=
 ⟨res,outs,h,hk⟩
theorem AC_snd_iff {P:Program} {T:Types} {M:Modes} {c:Cfg} {F:Out→Prop} {f:FuncId} {as:List AV} {rs ws:List Rid} {args:List AV} {all:Array Oper} {draw:Bool} {dst:Option Tmp} {os:List Oper} {i:Nat} {l:Log} {K:List Fr} {s:St} {res:AV} {outs:List AV} (h:Snd P f as res outs) :
  AC T M (Con P) c F f as rs ws args all draw dst os i l K s=(AE T M (Con P) c F all draw dst os i l K s (callEff M s i f args rs ws res outs)∨AC T M (Con P) c F f as rs ws args all draw dst os i l K s):=by
 refine propext ⟨.inr,fun h'=>h'.elim (AC_snd h) id⟩
class Br (P:Prop) (a b:outParam Prop):Prop where
 out:a→b→P
section
variable {T:Types} {M:Modes} {C:FuncId→List AV→AV→List AV→Prop} {c:Cfg} {F:Out→Prop}
instance br_intro {t:Bool} {a b K s}:Br (ABr T M C c F t a b K s) (t=true→A T M C c F a K s) (t=false→A T M C c F b K s):=⟨ABr_intro⟩
instance br_dec {p:Prop} [Decidable p] {a b K s}:Br (ABr T M C c F (decide p) a b K s) (p→A T M C c F a K s) (¬ p→A T M C c F b K s):=⟨ABr_dec⟩
instance gd_intro {t:Bool} {w all draw o os i l K s}:Br (AGd T M C c F t w all draw o os i l K s) (t=true→AGd T M C c F true w all draw o os i l K s) (t=false→AGd T M C c F false w all draw o os i l K s):=⟨AGd_intro⟩
instance gd_dec {p:Prop} [Decidable p] {w all draw o os i l K s}:Br (AGd T M C c F (decide p) w all draw o os i l K s) (p→AGd T M C c F true w all draw o os i l K s) (¬ p→AGd T M C c F false w all draw o os i l K s):=⟨AGd_dec⟩
end
theorem bH:(∀ a b:Bool,((a && b)=true)=(a=true∧b=true))∧(∀ a b:Bool,((a || b)=true)=(a=true∨b=true))∧(∀ a b:Bool,((a && b)=false)=(a=false∨b=false))∧(∀ a b:Bool,((a || b)=false)=(a=false∧b=false))∧(∀ b:Bool,(¬ b=true)=(b=false))∧(∀ b:Bool,(¬ b=false)=(b=true))∧(∀ b:Bool,((!b)=true)=(b=false))∧(∀ b:Bool,((!b)=false)=(b=true))∧(∀ (p:Prop) [Decidable p],(decide p=true)=p)∧∀ (p:Prop) [Decidable p],(decide p=false)=¬ p:=by
 refine ⟨by decide,by decide,by decide,by decide,by decide,by decide,by decide,by decide,?_,?_⟩<;>intros<;>simp
theorem dd {p:Prop} (h:p:=by first | assumption | omega | (refine of_indep ?_;kernel_rfl) | (simp;done) | fail):p:=h

end Go.Fw
