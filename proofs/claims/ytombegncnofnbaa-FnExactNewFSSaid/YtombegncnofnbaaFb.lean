/- The framework of this session, part 2: an evaluator over the loaded code, and that it is sound. No statement is assumed. -/
import Derived.Test.YtombegncnofnbaaFa
import Derived.Orders
import Derived.Tactics
namespace Go.Fw
set_option linter.unusedVariables false
set_option linter.unusedSimpArgs false
section
variable {X:Fix} {D:Nat→Prop} {s:St} {a:Act} {w:World} {i:Nat} {o:Oper} {T:Types}
theorem OC.cutRow {F:Nat→Prop} {sz:Nat} {ys:List (List AV)} {g:Option Nat} {m c:Nat} (ho:OC w F (.row sz ys) (.slice (addrOf g) m c)) {n:Nat} (hn:n≤ys.length):OC w F (.row sz (ys.take n)) (.slice (addrOf g) n c):=by
 rcases ho.row_inv with ⟨h1,h2⟩ | ⟨g',cap,cs,ty,fr,Fs,e1,e2,e3,e4,e5,e6,e7,e8,e9,e10⟩
 ·subst h1
  injection h2 with h2 _ h3
  simp at hn
  subst hn h3
  rw [h2]
  exact .nil _
 ·injection e1 with e1 _ e1'
  subst e1'
  rw [e1]
  have hlen:(ys.take n).length=n:=by simp;omega
  have hget:∀ (i:Nat) (c:List AV),(ys.take n)[i]? = some c→ys[i]? = some c:=fun i c hi=>by
   rw [List.getElem?_take] at hi
   split at hi
   ·exact hi
   ·cases hi
  have:=OC.row (w:=w) (F:=F) (sz:=sz) (xs:=ys.take n) (g:=g') (cap:=c) (cs:=cs) (ty:=ty) (fr:=fr) Fs e2 e3 e4 (by omega) e6 e7 e8 (fun i c hi=>e9 i c (hget i c hi)) (fun i j c a v hi hj hv=>by
   obtain ⟨u,k1,k2⟩:=e10 i j c a (hget i c hi) hj
   rw [k1] at hv
   injection hv with hv
   subst hv
   exact k2)
  rw [hlen] at this
  exact this
theorem OC.write {F F2:Nat→Prop} {sz:Nat} {xs:List (List AV)} {g n0 cap:Nat} (ho:OC w F (.row sz xs) (.slice (some ⟨g,0,none⟩) n0 cap)) {i j:Nat} {c:List AV} (hi:xs[i]? = some c) {vs:List AV} {us:List Value} (hlen:vs.length=us.length)
  (hj:j + vs.length≤c.length) {G:Nat→Nat→Prop} (hG:∀ k b,G k b→F2 b∧¬ F b) (hGd:∀ k k' b,G k b→G k' b→k=k')
  (hval:∀ (k:Nat) (x:AV) (u:Value),vs[k]? = some x→us[k]? = some u→OC w (G k) x u∨∃ sz1 ys1 n1,c[j + k]? = some (.row sz1 ys1)∧n1≤ys1.length∧x = .row sz1 (ys1.take n1)∧
   ∃ A m cp,w.cell? ⟨g,i * sz + (j + k),none⟩=some (.slice (addrOf A) m cp)∧u = .slice (addrOf A) n1 cp) :
  ∃ cs ty fr,w.heap[g]? = some (.cells cs ty fr)∧Thaw cs fr∧i * sz + j + us.length≤cs.size∧c.length=sz∧F g∧
   ((∀ b,b≠g→(w.setCells g (i * sz + j) us).heap[b]? = w.heap[b]?)→OC (w.setCells g (i * sz + j) us) (fun b=>F b∨F2 b) (.row sz (xs.set i (setCells c j vs))) (.slice (some ⟨g,0,none⟩) n0 cap))∧
   ∀ k l,l < sz→¬ (k=i∧j≤l∧l < j + vs.length)→(w.setCells g (i * sz + j) us).cell? ⟨g,k * sz + l,none⟩=w.cell? ⟨g,k * sz + l,none⟩:=by
 rcases ho.row_inv with ⟨-,h2⟩ | ⟨g',cap',cs,ty,fr,Fs,e1,e2,e3,e4,e5,e6,e7,e8,e9,e10⟩
 ·cases h2
 ·injection e1 with e1 e1'' e1'
  injection e1 with e1
  injection e1 with e1 _ _
  subst e1 e1' e1''
  have hcl:=e9 i c hi
  have hrange:i * sz + j + us.length≤cs.size:=by
   have h1:(i + 1) * sz≤cap * sz:=Nat.mul_le_mul_right _ (by have:=lt_len hi;omega)
   rw [Nat.add_mul] at h1
   omega
  obtain ⟨z1,z2,-⟩:=setCells_heap us (i * sz + j) e2
  obtain ⟨s1,s2⟩:=setL_get us cs (i * sz + j)
  have s2':=s2 hrange
  have hidx:∀ k l,l < sz→(i * sz + j≤k * sz + l∧k * sz + l < i * sz + j + us.length)→k=i∧j≤l∧l < j + vs.length:=by
   intro k l hl hr
   have h3:k * sz + l - i * sz < sz:=by omega
   have h4:k * sz + l=i * sz + (k * sz + l - i * sz):=by omega
   obtain ⟨h5,h6⟩:=idx_inj hl h3 h4
   subst h5
   exact ⟨rfl,by omega,by omega⟩
  have hout:∀ k l,l < sz→¬ (k=i∧j≤l∧l < j + vs.length)→(setL cs (i * sz + j) us)[k * sz + l]? = cs[k * sz + l]?:=by
   intro k l hl hn
   rw [s2',if_neg (fun h=>hn (hidx k l hl h))]
  refine ⟨cs,ty,fr,e2,e3,hrange,hcl,e6,fun hother => ?_,fun k l hl hn => ?_⟩
  ·have hxl:(xs.set i (setCells c j vs)).length=xs.length:=by simp
   obtain ⟨t1,t2⟩:=setCells_get vs c j hj
   have:=OC.row (w:=w.setCells g (i * sz + j) us) (F:=fun b=>F b∨F2 b) (sz:=sz) (xs:=xs.set i (setCells c j vs)) (g:=g) (cap:=cap) (cs:=setL cs (i * sz + j) us) (ty:=ty) (fr:=fr)
    (fun k l b=>Fs k l b∨(k=i∧j≤l∧l < j + vs.length∧G (l - j) b)) z1 (fun k hk=>e3 k (by rw [s1] at hk;exact hk)) (by rw [s1];exact e4) (by rw [hxl];exact e5) (.inl e6) ?_ ?_ ?_ ?_
   ·rw [hxl] at this
    exact this
   ·rintro k l b (hb | ⟨-,-,-,hb⟩)
    ·exact ⟨.inl (e7 k l b hb).1,(e7 k l b hb).2⟩
    ·exact ⟨.inr (hG _ b hb).1,fun e=>(hG _ b hb).2 (e ▸ e6)⟩
   ·rintro k l k' l' b (hb | ⟨a1,a2,a3,hb⟩) (hb' | ⟨b1,b2,b3,hb'⟩)
    ·exact e8 _ _ _ _ b hb hb'
    ·exact absurd (e7 _ _ b hb).1 (hG _ b hb').2
    ·exact absurd (e7 _ _ b hb').1 (hG _ b hb).2
    ·have:=hGd _ _ b hb hb'
     exact ⟨by omega,by omega⟩
   ·intro k c' hk
    rw [List.getElem?_set] at hk
    split at hk
    ·split at hk
     ·injection hk with hk
      subst hk
      rw [t1]
      exact hcl
     ·cases hk
    ·exact e9 k c' hk
   ·intro k l c' x v hk hl hv
    have hmove:∀ {F':Nat→Prop} {x:AV} {v:Value},(∀ b,F' b→b≠g)→OC w F' x v→OC (w.setCells g (i * sz + j) us) F' x v:=fun hne ho=>ho.move (fun b hb=>hother b (hne b hb))
    have hold:∀ c'',xs[k]? = some c''→c''[l]? = some x→¬ (k=i∧j≤l∧l < j + vs.length)→OC (w.setCells g (i * sz + j) us) (fun b=>Fs k l b∨(k=i∧j≤l∧l < j + vs.length∧G (l - j) b)) x v:=by
     intro c'' h1 h2 h3
     have hl':l < sz:=by rw [←e9 k c'' h1];exact lt_len h2
     rw [hout k l hl' h3] at hv
     obtain ⟨u0,w1,w2⟩:=e10 k l c'' x h1 h2
     rw [hv] at w1
     injection w1 with w1
     subst w1
     exact (hmove (fun b hb=>(e7 k l b hb).2) w2).mono fun b hb => .inl hb
    rw [List.getElem?_set] at hk
    split at hk
    ·rename_i ek
     subst ek
     split at hk
     ·injection hk with hk
      subst hk
      rw [t2] at hl
      split at hl
      ·rename_i hr
       rw [s2',if_pos (by omega)] at hv
       have hkk:i * sz + l - (i * sz + j)=l - j:=by omega
       rw [hkk] at hv
       rcases hval (l - j) x v hl hv with h1 | ⟨sz1,ys1,n1,h1,h2,rfl,A,m,cp,h3,rfl⟩
       ·exact (hmove (fun b hb=>fun e=>(hG _ b hb).2 (e ▸ e6)) h1).mono fun b hb => .inr ⟨rfl,hr.1,hr.2,hb⟩
       ·have hjl:j + (l - j)=l:=by omega
        rw [hjl] at h1 h3
        obtain ⟨u0,w1,w2⟩:=e10 i l c _ hi h1
        rw [cell_of_heap e2,w1] at h3
        injection h3 with h3
        subst h3
        exact (hmove (fun b hb=>(e7 _ _ b hb).2) (w2.cutRow h2)).mono fun b hb => .inl hb
      ·rename_i hr
       exact hold c hi hl (fun h=>hr h.2)
     ·cases hk
    ·rename_i ek
     exact hold c' hk hl (fun h=>ek h.1.symm)
  ·rw [cell_of_heap z1,cell_of_heap e2]
   exact hout k l hl hn
theorem VR.nil_row {h:Heap} {ρ:Rho} {sz sz':Nat} {v:Value} {S F:Nat→Prop} (hv:VR w S h ρ (.frz sz (some true) []) v):OC w F (.row sz' []) v:=by
 cases hv with
 | up hv=>cases hv with
  | up hv=>cases hv with
   | fv hf=>cases hf with
    | frz h hn=>
     have:=hn true rfl
     cases h with
     | nil=>exact .nil _
     | row=>simp [nilV] at this
theorem intakesAt_sound {h:Heap} {ρ:Rho} {Fr:Rid→Nat→Prop} (m:Mem X h ρ Fr w) {r:Rid} {i:Nat}:∀ {as bs:List AV} {j:Nat} {rs:List Rid} {vs:List Value},intakesAt h r i j as=some (bs,rs)→rs.Nodup→as.length=vs.length→
  (∀ (k:Nat) (a:AV) (v:Value),as[k]? = some a→vs[k]? = some v→VR w X.S h ρ a v)→
  ∃ G:Nat→Nat→Prop,(∀ k b,G k b→Own h Fr rs b∧Free X b)∧(∀ k k' b,G k b→G k' b→k=k')∧bs.length=as.length∧(∀ (k:Nat) (b:AV) (v:Value),bs[k]? = some b→vs[k]? = some v→OC w (G k) b v∨
   ∃ sz1 ys1 n1 bc,getRow h r (some (i,j + k))=some (sz1,ys1)∧n1≤ys1.length∧b = .row sz1 (ys1.take n1)∧refAt w h ρ r (some (i,j + k)) bc∧v = .slice (addrOf bc.1) n1 bc.2)
 | [],bs,j,rs,vs,hi,_,_,_=>by
  simp only [intakesAt,Option.some.injEq,Prod.mk.injEq] at hi
  obtain ⟨rfl,rfl⟩:=hi
  exact ⟨fun _ _=>False,fun _ _ hb=>hb.elim,fun _ _ _ hb=>hb.elim,rfl,by simp⟩
 | a :: as,bs,j,rs,vs,hi,hn,hl,hv=>by
  cases vs with
  | nil=>simp at hl
  | cons v vs=>
   simp only [intakesAt] at hi
   split at hi
   ·rename_i b q bs' rs' h1 h2
    simp only [Option.some.injEq,Prod.mk.injEq] at hi
    obtain ⟨rfl,rfl⟩:=hi
    obtain ⟨hn1,hn2,hn3⟩:=List.nodup_append.1 hn
    obtain ⟨G,g1,g2,g3,g4⟩:=intakesAt_sound m h2 hn2 (by simpa using hl) (fun k a v h3 h4=>hv (k + 1) a v (by simpa using h3) (by simpa using h4))
    have hdj:∀ b,Own h Fr q b→Own h Fr rs' b→False:=fun b h3 h4=>Own.disj m (fun r hr hr'=>hn3 r hr r hr' rfl) h3 h4
    have hva:=hv 0 a v rfl rfl
    have hfirst:∃ F:Nat→Prop,(∀ blk,F blk→Own h Fr q blk∧Free X blk)∧(OC w F b v∨∃ sz1 ys1 n1 bc,getRow h r (some (i,j))=some (sz1,ys1)∧n1≤ys1.length∧b = .row sz1 (ys1.take n1)∧refAt w h ρ r (some (i,j)) bc∧v = .slice (addrOf bc.1) n1 bc.2):=by
     unfold intakeAt at h1
     split at h1
     ·rename_i r' i' j' sz n nl
      split at h1
      ·rename_i hc
       obtain ⟨rfl,rfl,rfl⟩:=hc
       split at h1
       ·rename_i sz' ys hg
        split at h1
        ·rename_i hc2
         obtain ⟨rfl,c2⟩:=hc2
         simp only [Option.some.injEq,Prod.mk.injEq] at h1
         obtain ⟨rfl,rfl⟩:=h1
         refine ⟨fun _=>False,fun _ hb=>hb.elim, .inr ?_⟩
         have hv2:=hva.ref_inv
         cases hv2 with
         | fv hf=>cases hf
         | ref q1 q2 q3=>
          obtain ⟨-,q4,bc,q5,A,cap,q6,q7,-⟩:=q1 _ _ hg
          obtain ⟨rfl,rfl⟩:=q7 rfl
          exact ⟨_,_,_,bc,hg,c2,rfl,q5,q6⟩
        ·cases h1
       ·cases h1
      ·cases h1
     ·refine ⟨fun _=>False,fun _ hb=>hb.elim, .inl ?_⟩
      split at h1
      ·split at h1
       ·simp only [Option.some.injEq,Prod.mk.injEq] at h1
        obtain ⟨rfl,rfl⟩:=h1
        exact hva.nil_row
       ·simp only [Option.some.injEq,Prod.mk.injEq] at h1
        obtain ⟨rfl,rfl⟩:=h1
        exact hva.nil_row
      ·simp only [Option.some.injEq,Prod.mk.injEq] at h1
       obtain ⟨rfl,rfl⟩:=h1
       exact hva.nil_row
     ·obtain ⟨⟨F,f1,f2⟩,-⟩:=intake_sound m hva h1
      exact ⟨F,f1, .inl f2⟩
    obtain ⟨F,f1,f2⟩:=hfirst
    refine ⟨fun k b=>match k with | 0=>F b | k + 1=>G k b,?_,?_,by simp [g3],?_⟩
    ·intro k b hb
     cases k with
     | zero=>
      obtain ⟨⟨r,y,e1,e2⟩,e3⟩:=f1 b hb
      exact ⟨⟨r,y,by simp [e1],e2⟩,e3⟩
     | succ k=>
      obtain ⟨⟨r,y,e1,e2⟩,e3⟩:=g1 k b hb
      exact ⟨⟨r,y,by simp [e1],e2⟩,e3⟩
    ·intro k k' b hb hb'
     cases k with
     | zero=>cases k' with
      | zero=>rfl
      | succ k'=>exact (hdj b (f1 b hb).1 (g1 k' b hb').1).elim
     | succ k=>cases k' with
      | zero=>exact (hdj b (f1 b hb').1 (g1 k b hb).1).elim
      | succ k'=>rw [g2 k k' b hb hb']
    ·intro k b u h3 h4
     cases k with
     | zero=>simp at h3 h4;subst h3 h4;exact f2
     | succ k=>
      have:=g4 k b u (by simpa using h3) (by simpa using h4)
      rw [show j + (k + 1)=j + 1 + k by omega]
      exact this
   ·cases hi
theorem one_of_intakesAt {h:Heap} {ρ:Rho} {Fr:Rid→Nat→Prop} (m:Mem X h ρ Fr w) {a:AV} {v:Value} (hv:VR w X.S h ρ a v) {vs:List AV} {rs:List Rid} {r:Rid} {i j:Nat} (hi:intakesAt h r i j (cellsOf a)=some (vs,rs)):(∃ cs,a = .agg cs)∨v.cells = #[v]:=by
 by_cases hagg:∃ cs',a = .agg cs'
 ·exact .inl hagg
 ·right
  have hc1:cellsOf a = [a]:=by
   cases a<;>first | rfl | exact absurd ⟨_,rfl⟩ hagg
  rw [hc1] at hi
  simp only [intakesAt] at hi
  split at hi
  ·rename_i b q' _ _ hi1 _
   unfold intakeAt at hi1
   split at hi1
   ·have hv2:=hv.ref_inv
    cases hv2 with
    | fv hf=>cases hf
    | ref q1 q2 q3=>obtain ⟨A,c,rfl,-⟩:=q3;rfl
   ·have h5:=hv.nil_row (sz':=0) (F:=fun _=>False)
    cases h5<;>rfl
   ·exact (intake_sound m hv hi1).2.2.2
  ·cases hi
theorem rowsAt_mem:∀ {vs:List AV} {j k sz:Nat} {ys:List (List AV)},vs[k]? = some (.row sz ys)→j + k ∈ rowsAt j vs
 | [],j,k,sz,ys,h=>by simp at h
 | v :: vs,j,0,sz,ys,h=>by
  simp at h
  subst h
  simp [rowsAt,isRow]
 | v :: vs,j,k + 1,sz,ys,h=>by
  have:=rowsAt_mem (vs:=vs) (j:=j + 1) (k:=k) (by simpa using h)
  rw [show j + (k + 1)=j + 1 + k by omega]
  simp only [rowsAt]
  split
  ·exact List.mem_cons_of_mem _ this
  ·exact this
theorem store_row (hT:TOk X.P T) (hs:Sim X D s a w) (hD:¬ D i) (hd:∀ d,o.dst=some d→d < a.tmps.size) {t:TypeId} {ox oy:Operand} (ho:o.op = .store t ox oy) {ti:TI} (hti:T t=some ti) {r:Rid} {i0 j:Nat} (hx:s.ev ox=some (.ptr r none i0 j)) {v:AV} (hy:s.ev oy=some v)
  {sz:Nat} {xs:List (List AV)} {dt:List Nat} (hlr:look r s.h=some (.row sz xs dt)) (hc1:(cellsOf v).length=ti.size) {c:List AV} (hc:xs[i0]? = some c) (hc2:j + ti.size≤c.length) {vs:List AV} {rs:List Rid}
  (hin:intakesAt s.h r i0 j (cellsOf v)=some (vs,rs)) (hrs:¬ (memR r rs || !nodupR rs)=true) :
  Done X D s a w i o { wr:=(r,some (.row sz (xs.set i0 (setCells c j vs)) (rowsAt j vs++dt))) :: gone rs,rd:=r :: rs }:=by
 obtain ⟨ii,dd,zz,hok⟩:=hT _ _ hti
 obtain ⟨hl,hS,ρ,Fr,m,ht⟩:=hs
 simp only [Bool.or_eq_true,Bool.not_eq_true',not_or,Bool.not_eq_true,Bool.not_eq_false] at hrs
 obtain ⟨hr1,hr2⟩:=hrs
 have hrrs:r ∉ rs:=fun h=>by rw [memR_iff.2 h] at hr1;cases hr1
 have hvx:=(ev_sound ht hx).ptr_inv
 have hvy:=ev_sound ht hy
 cases hvx with
 | fv hf=>cases hf
 | ptr h1 h2=>
 obtain ⟨g,p,g1,g2⟩:=h1 c (by simp [getChunk,hlr,subRow,hc])
 simp only [ptrAt,hlr,subRow,Option.some.injEq,Prod.mk.injEq] at g1
 obtain ⟨sz',ys',bc,⟨rfl,rfl⟩,g3,g4,rfl⟩:=g1
 simp only [placeAt] at g3
 subst g3
 rcases m.root r _ hlr with ⟨g',k1,k2,k3⟩ | ⟨-,k2⟩
 rotate_left
 ·subst k2;simp at hc
 rw [g4] at k1
 injection k1 with k1
 subst k1
 obtain ⟨e1,e2⟩:=hvy.cells' (one_of_intakesAt m hvy hin) hc1
 obtain ⟨G,q1,q2,q3,q4⟩:=intakesAt_sound m (vs:=(a.eval oy).cells.toList) hin (nodupR_iff.1 hr2) (by simp [hc1,e1]) e2
 have hvl:vs.length=(a.eval oy).cells.toList.length:=by rw [q3,hc1];simp [e1]
 have hGF:∀ k b,G k b→(Own s.h Fr rs b∧Free X b)∧¬ Fr r b:=fun k b hb=>by
  refine ⟨q1 k b hb,fun hb' => ?_⟩
  obtain ⟨q,y,f1,f2,f3⟩:=(q1 k b hb).1
  exact hrrs (m.disj r _ q y b hlr f2 hb' f3 ▸ f1)
 obtain ⟨cs,ty,fr,w1,w2,w3,w4,w5,w6,w7⟩:=k2.write (F2:=fun b=>Own s.h Fr rs b∧Free X b) hc hvl (by rw [q3,hc1];exact hc2) hGF q2 (fun k x u hk hu=>by
  rcases q4 k x u hk hu with h | ⟨sz1,ys1,n1,bc1,f1,f2,f3,f4,f5⟩
  ·exact .inl h
  ·right
   simp only [getRow,hlr] at f1
   obtain ⟨d1,c',d2,d3⟩:=subRow_inv f1
   rw [hc] at d2
   injection d2 with d2
   subst d2
   simp only [refAt,hlr] at f4
   obtain ⟨g5,m5,f6,f7⟩:=f4
   rw [g4] at f6
   injection f6 with f6
   subst f6
   exact ⟨sz1,ys1,n1,d3,f2,f3,bc1.1,m5,bc1.2,f7,f5⟩)
 have hone:∀ u ∈ (a.eval oy).cells.toList,u.oneCell'=true:=fun u hu=>by
  obtain ⟨k,hk⟩:=List.mem_iff_getElem?.1 hu
  have hlt:k < vs.length:=by rw [hvl];exact lt_len hk
  rcases q4 k _ u (List.getElem?_eq_getElem hlt) hk with h | ⟨sz1,ys1,n1,bc1,f1,f2,f3,f4,rfl⟩
  ·exact h.one
  ·rfl
 have hrun:=exec_store (X:=X) (a:=a) ho (by
  rw [g2]
  exact run_store_at (P:=X.P) hok w1 w2 e1 (by simpa [e1] using w3) hone)
 obtain ⟨z1,z2,z3,z4,z5,z6⟩:=setCells_heap (a.eval oy).cells.toList (i0 * sz + j) w1
 have hrow:=w6 z2
 generalize hw':w.setCells g (i0 * sz + j) (a.eval oy).cells.toList=w' at *
 generalize hwr:(r,some (Root.row sz (xs.set i0 (setCells c j vs)) (rowsAt j vs++dt))) :: gone rs=wr
 have hmem:∀ q,q ∈ wr.map (·.1)↔q=r∨q ∈ rs:=fun q=>by
  rw [←hwr]
  simp only [List.map_cons,List.mem_cons,mem_gone]
 have hlook:∀ q,look q (applyWr wr s.h)=if q=r then some (.row sz (xs.set i0 (setCells c j vs)) (rowsAt j vs++dt)) else if q ∈ rs then none else look q s.h:=fun q=>by
  rw [look_applyWr,←hwr]
  simp only [lastWr,lastWr_gone]
  by_cases f1:q=r
  ·subst f1
   simp [hrrs]
  ·by_cases f2:q ∈ rs<;>simp [f1,f2]
 have hlkr:look r (applyWr wr s.h)=some (.row sz (xs.set i0 (setCells c j vs)) (rowsAt j vs++dt)):=by rw [hlook,if_pos rfl]
 have honly:∀ q y,q ∈ wr.map (·.1)→look q (applyWr wr s.h)=some y→q=r∧y = .row sz (xs.set i0 (setCells c j vs)) (rowsAt j vs++dt):=fun q y hq hy'=>by
  rw [hlook] at hy'
  by_cases f1:q=r
  ·rw [if_pos f1] at hy'
   injection hy' with hy'
   exact ⟨f1,hy'.symm⟩
  ·rcases (hmem q).1 hq with h | h
   ·exact absurd h f1
   ·simp [f1,h] at hy'
 have hgr:Fr r g:=w5
 refine ⟨.skip,Go.undef,w',hrun, .inr ⟨rfl,rfl⟩,?_⟩
 refine Sim.write (i:=i) hl hS m ht (e:={ wr:=wr,rd:=r :: rs }) (ρ':=ρ) (Fr':=fun q=>if q=r then fun b=>Fr r b∨(Own s.h Fr rs b∧Free X b) else Fr q) ?_ z4 z5 z6 (by omega) ?_ ?_ ?_ ?_ ?_ ?_ hd (.up (.up (.fv .undef))) (by simp [rids,rid2,rid1]) ?_
 ·intro q hq
  have:q≠r:=fun e=>hq ((hmem q).2 (.inl e))
  simp [this]
 ·intro b hb hk
  exact z2 b (fun e=>hk r _ ((hmem r).2 (.inl rfl)) hlr (e ▸ hgr))
 ·intro b q y hq hy' hf hb
  by_cases hbg:b=g
  ·subst hbg
   rw [w1,z1]
   exact ObjSame.free hb (k3 b hgr) (setL_get _ _ _).1
  ·exact .inl (z2 b hbg)
 ·intro q y hq hy'
  obtain ⟨rfl,rfl⟩:=honly q y hq hy'
  simp only [if_true]
  refine .inl ⟨g,g4,?_,?_⟩
  ·simpa using hrow
  ·rintro b (hb | hb)
   ·exact k3 b hb
   ·exact hb.2
 ·intro q y b hq hy' hb
  obtain ⟨rfl,rfl⟩:=honly q y hq hy'
  simp only [if_true] at hb
  rcases hb with hb | ⟨⟨q',y,f1,f2,f3⟩,-⟩
  ·exact ⟨by have:=(m.foot q _ b hlr hb).1;omega, .inr ⟨q,_,(hmem q).2 (.inl rfl),hlr,hb⟩⟩
  ·exact ⟨by have:=(m.foot q' y b f2 f3).1;omega, .inr ⟨q',y,(hmem q').2 (.inr f1),f2,f3⟩⟩
 ·intro q y q' y' b hq hq' hy' hy'' _ _
  rw [(honly q y hq hy').1,(honly q' y' hq' hy'').1]
 ·intro q hq hlq
  rcases (hmem q).1 hq with h | h
  ·subst h
   refine Compat.row hlr hlkr rfl (by simp) (fun k l sz1 ys1 hs1 => ?_)
   obtain ⟨d1,c1',d2,d3⟩:=subRow_inv hs1
   have d1':l ∉ rowsAt j vs∧l ∉ dt:=by simpa using d1
   obtain ⟨t1,t2⟩:=setCells_get vs c j (by rw [q3,hc1];exact hc2)
   have hold:(∃ c,xs[k]? = some c∧c[l]? = some (.row sz1 ys1))∧¬ (k=i0∧j≤l∧l < j + vs.length):=by
    rw [List.getElem?_set] at d2
    split at d2
    ·rename_i ek
     subst ek
     split at d2
     ·injection d2 with d2
      subst d2
      rw [t2] at d3
      split at d3
      ·rename_i hr
       have:=rowsAt_mem (j:=j) d3
       rw [show j + (l - j)=l by omega] at this
       exact absurd this d1'.1
      ·rename_i hr
       exact ⟨⟨c,hc,d3⟩,fun h=>hr h.2⟩
     ·cases d2
    ·rename_i ek
     exact ⟨⟨_,d2,d3⟩,fun h=>ek h.1.symm⟩
   obtain ⟨⟨c',d4,d5⟩,hnot⟩:=hold
   refine ⟨ys1,subRow_of (by simpa using d1'.2) d4 d5,rfl,fun g' hg' => ?_⟩
   rw [g4] at hg'
   injection hg' with hg'
   subst hg'
   refine w7 k l ?_ hnot
   rcases k2.row_inv with ⟨f1,-⟩ | ⟨g2,cap2,cs2,ty2,fr2,Fs,f1,f2,f3,f4,f5,f6,f7,f8,f9,f10⟩
   ·subst f1;simp at d4
   ·rw [←f9 k c' d4]
    exact lt_len d5
  ·refine Compat.gone ?_
   have e2:q≠r:=fun e=>hrrs (e ▸ h)
   rw [hlook,if_neg e2,if_pos h]
 ·intro q y hq hy'
  obtain ⟨rfl,rfl⟩:=honly q y hq hy'
  exact ⟨(hl q (.inr ⟨q,_,hlr, .inl rfl⟩)).mono fun _ h => .inl h,by simp [ridsBox]⟩
end

section
variable {X:Fix} {D:Nat→Prop} {s:St} {a:Act} {w:World} {i:Nat} {o:Oper} {T:Types}
theorem store_nested (hT:TOk X.P T) (hs:Sim X D s a w) (hD:¬ D i) (hd:∀ d,o.dst=some d→d < a.tmps.size) {t:TypeId} {ox oy:Operand} (ho:o.op = .store t ox oy) {ti:TI} (hti:T t=some ti) {r:Rid} {i1 j1 i0 j:Nat} (hx:s.ev ox=some (.ptr r (some (i1,j1)) i0 j)) {v:AV} (hy:s.ev oy=some v)
  {szr:Nat} {xs:List (List AV)} {dt:List Nat} (hlr:look r s.h=some (.row szr xs dt)) (hc1:(cellsOf v).length=ti.size) {sz1:Nat} {ys:List (List AV)} (hsub:subRow szr xs dt (some (i1,j1))=some (sz1,ys)) {c:List AV} (hc:ys[i0]? = some c) (hc2:j + ti.size≤c.length) {vs:List AV}
  (hin:intakes s.h (cellsOf v)=some (vs,[])) :
  Done X D s a w i o { wr := [(r,some (.row szr (setSub xs (some (i1,j1)) (ys.set i0 (setCells c j vs))) dt))],rd := [r] }:=by
 obtain ⟨ii,dd,zz,hok⟩:=hT _ _ hti
 obtain ⟨hl,hS,ρ,Fr,m,ht⟩:=hs
 have hvx:=(ev_sound ht hx).ptr_inv
 have hvy:=ev_sound ht hy
 obtain ⟨hdt,c1,hxi,hcj⟩:=subRow_inv hsub
 cases hvx with
 | fv hf=>cases hf
 | ptr h1 h2=>
 obtain ⟨g1,p,p1,p2⟩:=h1 c (by simp [getChunk,hlr,hsub,hc])
 simp only [ptrAt,hlr] at p1
 obtain ⟨sz',ys',bc,p3,p4,p5,rfl⟩:=p1
 rw [hsub] at p3
 simp only [Option.some.injEq,Prod.mk.injEq] at p3
 obtain ⟨rfl,rfl⟩:=p3
 obtain ⟨g,n',p6,p7⟩:=p4
 rcases m.root r _ hlr with ⟨g',k1,k2,k3⟩ | ⟨-,k2⟩
 rotate_left
 ·subst k2;simp at hxi
 rw [p6] at k1
 injection k1 with k1
 subst k1
 rcases k2.row_inv with ⟨-,k4⟩ | ⟨g2,cap2,cs,ty2,fr2,Fs,f1,f2,f3,f4,f5,f6,f7,f8,f9,f10⟩
 ·cases k4
 injection f1 with f1 _ f1'
 injection f1 with f1
 injection f1 with f1 _ _
 subst f1
 obtain ⟨uv,r1,r2⟩:=f10 i1 j1 c1 _ hxi hcj
 have huv:uv = .slice (addrOf bc.1) n' bc.2:=by
  rw [cell_of_heap f2,r1] at p7
  injection p7
 subst huv
 rw [p5] at r2
 simp only [addrOf,Option.map_some] at r2
 obtain ⟨e1,e2⟩:=hvy.cells' (one_of_intakes m hvy hin) hc1
 obtain ⟨G,q1,q2,q3,q4,-⟩:=intakes_sound m (vs:=(a.eval oy).cells.toList) hin (by simp) (by simp [hc1,e1]) e2
 have hG0:∀ k b,¬ G k b:=fun k b hb=>by
  obtain ⟨q,y,z,-⟩:=(q1 k b hb).1
  simp at z
 have hvl:vs.length=(a.eval oy).cells.toList.length:=by rw [q3,hc1];simp [e1]
 obtain ⟨cs1,ty1,fr1,w1,w2,w3,w4,w5,w6,w7⟩:=r2.write (F2:=fun _=>False) hc hvl (by rw [q3,hc1];exact hc2) (fun k b hb=>(hG0 k b hb).elim) q2 (fun k x u hk hu => .inl (q4 k x u hk hu))
 have hone:∀ u ∈ (a.eval oy).cells.toList,u.oneCell'=true:=fun u hu=>by
  obtain ⟨k,hk⟩:=List.mem_iff_getElem?.1 hu
  have hlt:k < vs.length:=by rw [hvl];exact lt_len hk
  exact (q4 k _ u (List.getElem?_eq_getElem hlt) hk).one
 have hrun:=exec_store (X:=X) (a:=a) ho (by
  rw [p2]
  exact run_store_at (P:=X.P) hok w1 w2 e1 (by simpa [e1] using w3) hone)
 obtain ⟨z1,z2,z3,z4,z5,z6⟩:=setCells_heap (a.eval oy).cells.toList (i0 * sz1 + j) w1
 have hrow:=w6 z2
 generalize hw':w.setCells g1 (i0 * sz1 + j) (a.eval oy).cells.toList=w' at *
 have hgne:g≠g1:=fun e=>(f7 _ _ _ w5).2 e.symm
 have hgsame:w'.heap[g]? = w.heap[g]?:=z2 g hgne
 have hset:setSub xs (some (i1,j1)) (ys.set i0 (setCells c j vs))=xs.set i1 (c1.set j1 (.row sz1 (ys.set i0 (setCells c j vs)))):=by
  simp only [setSub,hxi,hcj]
 rw [hset]
 generalize hysd:ys.set i0 (setCells c j vs)=ys1 at *
 have hyl:ys1.length=ys.length:=by rw [←hysd];simp
 have hg1r:Fr r g1:=(f7 _ _ _ w5).1
 have hlook:∀ q,look q (applyWr [(r,some (.row szr (xs.set i1 (c1.set j1 (.row sz1 ys1))) dt))] s.h)=if q=r then some (.row szr (xs.set i1 (c1.set j1 (.row sz1 ys1))) dt) else look q s.h:=fun q=>by
  simp only [applyWr,look_put]
 refine ⟨.skip,Go.undef,w',hrun, .inr ⟨rfl,rfl⟩,?_⟩
 refine Sim.write (i:=i) hl hS m ht (e:={ wr := [(r,some (.row szr (xs.set i1 (c1.set j1 (.row sz1 ys1))) dt))],rd := [r] }) (ρ':=ρ) (Fr':=Fr) (fun _ _=>⟨rfl,rfl⟩) z4 z5 z6 (by omega) ?_ ?_ ?_ ?_ ?_ ?_ hd (.up (.up (.fv .undef))) (by simp [rids,rid2,rid1]) ?_
 ·intro b hb hk
  exact z2 b (fun e=>hk r _ (by simp) hlr (e ▸ hg1r))
 ·intro b q y hq hy' hf hb
  by_cases hbg:b=g1
  ·subst hbg
   rw [w1,z1]
   exact ObjSame.free hb (k3 b hg1r) (setL_get _ _ _).1
  ·exact .inl (z2 b hbg)
 ·intro q y hq hy'
  simp at hq
  subst hq
  rw [hlook,if_pos rfl] at hy'
  injection hy' with hy'
  subst hy'
  have hlen:(xs.set i1 (c1.set j1 (.row sz1 ys1))).length=xs.length:=by simp
  refine .inl ⟨g,p6,?_,k3⟩
  rw [hlen,f1']
  have:=OC.row (w:=w') (F:=Fr q) (sz:=szr) (xs:=xs.set i1 (c1.set j1 (.row sz1 ys1))) (g:=g) (cap:=cap2) (cs:=cs) (ty:=ty2) (fr:=fr2) Fs (by rw [hgsame];exact f2) f3 f4 (by rw [hlen];exact f5) f6 f7 f8 (fun k c hk => ?_) (fun k l c' x v hk hj hv => ?_)
  ·rw [hlen] at this
   exact this
  ·rw [List.getElem?_set] at hk
   split at hk
   ·split at hk
    ·injection hk with hk
     subst hk
     simpa using f9 _ _ hxi
    ·cases hk
   ·exact f9 _ _ hk
  ·have hmv:∀ k l c x v,xs[k]? = some c→c[l]? = some x→cs[k * szr + l]? = some v→(k≠i1∨l≠j1)→OC w' (Fs k l) x v:=by
    intro k l c x v e1 e2 e3 hne
    obtain ⟨u0,v1,v2⟩:=f10 k l c x e1 e2
    rw [e3] at v1
    injection v1 with v1
    subst v1
    refine v2.move (w':=w') (fun b hb=>z2 b (fun e => ?_))
    subst e
    obtain ⟨e4,e5⟩:=f8 _ _ _ _ b hb w5
    rcases hne with h | h
    ·exact h e4
    ·exact h e5
   rw [List.getElem?_set] at hk
   split at hk
   ·rename_i ek
    subst ek
    split at hk
    ·injection hk with hk
     subst hk
     rw [List.getElem?_set] at hj
     split at hj
     ·rename_i ej
      subst ej
      split at hj
      ·injection hj with hj
       subst hj
       rw [r1] at hv
       injection hv with hv
       subst hv
       rw [p5]
       exact hrow.mono (fun b hb=>by simpa using hb)
      ·cases hj
     ·rename_i ej
      exact hmv _ _ _ _ _ hxi hj hv (.inr (Ne.symm ej))
    ·cases hk
   ·rename_i ek
    exact hmv _ _ _ _ _ hk hj hv (.inl (Ne.symm ek))
 ·intro q y b hq hy' hb
  simp at hq
  subst hq
  exact ⟨by have:=(m.foot q _ b hlr hb).1;omega, .inr ⟨q,_,by simp,hlr,hb⟩⟩
 ·intro q y q' y' b hq hq' _ _ _ _
  simp at hq hq'
  rw [hq,hq']
 ·intro q hq hlq
  simp at hq
  subst hq
  refine Compat.row hlr (by rw [hlook,if_pos rfl]) rfl (by simp) (fun k l sz2 ys2 hs1 => ?_)
  obtain ⟨d1,c1',d2,d3⟩:=subRow_inv hs1
  have hold:∃ c ys0,xs[k]? = some c∧c[l]? = some (.row sz2 ys0)∧ys2.length=ys0.length:=by
   rw [List.getElem?_set] at d2
   split at d2
   ·rename_i ek
    subst ek
    split at d2
    ·injection d2 with d2
     subst d2
     rw [List.getElem?_set] at d3
     split at d3
     ·rename_i ej
      subst ej
      split at d3
      ·simp only [Option.some.injEq,AV.row.injEq] at d3
       obtain ⟨rfl,rfl⟩:=d3
       exact ⟨c1,ys,hxi,hcj,hyl⟩
      ·cases d3
     ·exact ⟨c1,ys2,hxi,d3,rfl⟩
    ·cases d2
   ·exact ⟨_,ys2,d2,d3,rfl⟩
  obtain ⟨c',ys0,d4,d5,d6⟩:=hold
  refine ⟨ys0,subRow_of d1 d4 d5,d6,fun g' hg' => ?_⟩
  rw [p6] at hg'
  injection hg' with hg'
  subst hg'
  exact cell_congr hgsame _
 ·intro q y hq hy'
  simp at hq
  subst hq
  rw [hlook,if_pos rfl] at hy'
  injection hy' with hy'
  subst hy'
  exact ⟨(hl q (.inr ⟨q,_,hlr, .inl rfl⟩)).mono fun _ h => .inl h,by simp [ridsBox]⟩
theorem store_done (hT:TOk X.P T) (hs:Sim X D s a w) (hD:¬ D i) (hd:∀ d,o.dst=some d→d < a.tmps.size) {t:TypeId} {ox oy:Operand} (ho:o.op = .store t ox oy) {x v:AV} (hx:s.ev ox=some x) (hy:s.ev oy=some v) {e:Eff} (he:storeAV T s.h t x v=some e):Done X D s a w i o e:=by
 unfold storeAV at he
 split at he
 ·rename_i ti r p i0 j hti
  split at he
  ·rename_i cs hlr
   split at he
   ·split at he
    ·rename_i hc
     injection he with he
     subst he
     exact store_box hT hs hD hd ho hti hx hy hlr hc.1 hc.2.1 hc.2.2
    ·cases he
   ·cases he
  ·rename_i sz xs dt hlr
   split at he
   ·rename_i hc1
    split at he
    ·split at he
     ·rename_i c hc
      split at he
      ·rename_i hc2
       split at he
       ·rename_i vs rs hin
        split at he
        ·cases he
        ·rename_i hrs
         injection he with he
         subst he
         exact store_row hT hs hD hd ho hti hx hy hlr hc1 hc hc2 hin hrs
       ·cases he
      ·cases he
     ·cases he
    ·rename_i q
     obtain ⟨i1,j1⟩:=q
     split at he
     ·rename_i sz1 ys hsub
      split at he
      ·rename_i c hc
       split at he
       ·rename_i hc2
        split at he
        ·rename_i vs hin
         injection he with he
         subst he
         exact store_nested hT hs hD hd ho hti hx hy hlr hc1 hsub hc hc2 hin
        ·cases he
       ·cases he
      ·cases he
     ·cases he
   ·cases he
  ·cases he
 ·cases he
end

section
variable {X:Fix} {D:Nat→Prop} {s:St} {a:Act} {w:World} {i:Nat} {o:Oper} {T:Types}
theorem copySrc_sound {h:Heap} {ρ:Rho} {Fr:Rid→Nat→Prop} (m:Mem X h ρ Fr w) {y:AV} {v:Value} (hv:VR w X.S h ρ y v) {ys:List (List AV)} {rd:List Rid} (hs:copySrc h y=some (ys,rd)) :
  ∃ f:Nat→Value,(∀ (k:Nat) (c:List AV),ys[k]? = some c→∃ x,c = [x]∧FC w (fun _=>True) x (f k))∧(Builtin.lenOf v).run X.P w = .ok ys.length w∧
   ∀ n,n≤ys.length→(Builtin.firstCells 1 n v).run X.P w = .ok ((List.range n).map f).toArray w:=by
 unfold copySrc at hs
 split at hs
 ·rename_i l
  simp only [Option.some.injEq,Prod.mk.injEq] at hs
  obtain ⟨rfl,rfl⟩:=hs
  obtain ⟨sb,rfl,hsb⟩:=hv.str_inv
  obtain ⟨Fs,-,-,h1,h2⟩:=bytes_rows l w
  refine ⟨fun k => .int .u8 (l.getD k 0).toNat,fun k c hk => ?_,?_,fun n hn => ?_⟩
  ·have h3:=h1 k c hk
   match c,h3 with
   | [x],_=>exact ⟨x,rfl,(h2 k 0 [x] x hk rfl).read fun _ _=>trivial⟩
  ·simp [Builtin.lenOf,size_data,hsb,listToBytes]
  ·have hln:n≤l.length:=by simpa [listToBytes] using hn
   have h3:=str_cut hsb 0 n hln
   simp only [Builtin.firstCells]
   have h4:(sb.extract 0 n).data.map (fun b=>Value.int .u8 b.toNat)=((List.range n).map fun k=>Value.int .u8 (l.getD k 0).toNat).toArray:=by
    apply Array.toList_inj.1
    rw [Array.toList_map,h3]
    apply List.ext_getElem?
    intro k
    simp only [List.drop_zero,Nat.sub_zero,List.getElem?_map,List.getElem?_take,List.getElem?_range]
    by_cases hk:k < n
    ·have hkl:k < l.length:=by omega
     simp [hk,hkl,List.getElem?_range]
    ·simp [hk]
   rw [h4]
   rfl
 ·obtain ⟨A,c,f,rfl,e2,e3,e4⟩:=elems_sound m hv hs
  refine ⟨fun k=>f k 0,fun k c hk => ?_,by simp [Builtin.lenOf],fun n hn => ?_⟩
  ·have h3:=e3 k c hk
   match c,h3 with
   | [x],_=>
    obtain ⟨B,-,-,h4⟩:=e4 k 0 [x] x hk rfl
    exact ⟨x,rfl,h4⟩
  ·cases A with
   | none=>
    have:n=0:=by
     rcases Nat.eq_zero_or_pos n with h | h
     ·exact h
     ·exfalso
      have hk:=List.getElem?_eq_getElem (l:=ys) (i:=0) (by omega)
      have h3:=e3 0 _ hk
      generalize ys[0]=c0 at hk h3
      match c0,h3 with
      | [x],_=>
       obtain ⟨B,h4,-⟩:=e4 0 0 [x] x hk rfl
       cases h4
    subst this
    simp [Builtin.firstCells]
   | some B=>
    have:=run_loadCells_list (P:=X.P) w B ((List.range n).map fun k=>f k 0) (fun j u hj=>by
     simp only [List.getElem?_map,Option.map_eq_some_iff] at hj
     obtain ⟨k,hk,rfl⟩:=hj
     have hjn:j < n:=by
      have:=lt_len hk
      simpa using this
     rw [List.getElem?_range hjn] at hk
     injection hk with hk
     subst hk
     have hk:=List.getElem?_eq_getElem (l:=ys) (i:=j) (by omega)
     have h3:=e3 j _ hk
     generalize ys[j]=c0 at hk h3
     match c0,h3 with
     | [x],_=>
      obtain ⟨B',h4,h5,-⟩:=e4 j 0 [x] x hk rfl
      injection h4 with h4
      subst h4
      simpa using h5)
    simpa [Builtin.firstCells] using this
theorem splice_get {xs ys:List (List AV)} {off n:Nat} (h:off + n≤xs.length) (k:Nat):(xs.take off++(ys.take n++xs.drop (off + min ys.length n)))[k]? = if off≤k∧k < off + min ys.length n then ys[k - off]? else xs[k]?:=by
 have h1:(xs.take off).length=off:=by simp;omega
 have h2:(ys.take n).length=min ys.length n:=by simp;omega
 rcases Nat.lt_or_ge k off with hk | hk
 ·rw [List.getElem?_append_left (by omega),if_neg (by omega),List.getElem?_take,if_pos hk]
 ·rw [List.getElem?_append_right (by omega),h1]
  rcases Nat.lt_or_ge k (off + min ys.length n) with hk2 | hk2
  ·rw [List.getElem?_append_left (by omega),if_pos ⟨hk,hk2⟩,List.getElem?_take,if_pos (by omega)]
  ·rw [List.getElem?_append_right (by omega),if_neg (by omega),h2,List.getElem?_drop]
   congr 1
   omega
theorem copy_done (hT:TOk X.P T) (hs:Sim X D s a w) (hD:¬ D i) (hd:∀ d,o.dst=some d→d < a.tmps.size) {c:Call} {ox oy:Operand} (ho:o.op = .call c) (hc:c.callee = .builtin .copy) (hargs:c.args.toList = [ox,oy]) {t u:TypeId} (hat:c.argTypes.toList = [t,u])
  {x y:AV} (hx:s.ev ox=some x) (hy:s.ev oy=some y) {e:Eff} (he:copyAV T s.h t x y=some e):e.ok→Done X D s a w i o e:=by
 intro hok0
 unfold copyAV at he
 split at he
 rotate_left
 ·cases he
 rename_i el _ _ hti
 obtain ⟨i1,d1,z1,ok1⟩:=hT _ _ hti
 have q1:=ok1.kok
 have u1:=ok1.und
 cases d1<;>simp only [KOK] at q1
 rename_i el1
 subst q1
 split at he
 rotate_left
 ·cases he
 rename_i te hte
 obtain ⟨ie,de,ze,hoke⟩:=hT _ _ hte
 split at he
 rotate_left
 ·cases he
 rename_i hsz
 split at he
 rotate_left
 ·cases he
 rename_i ys rd hsrc
 unfold copyInto at he
 split at he
 rotate_left
 ·cases he
 rename_i r sz off n nl
 split at he
 rotate_left
 ·cases he
 rename_i sz' xs dt hlr
 split at he
 rotate_left
 ·cases he
 rename_i hcond
 obtain ⟨rfl,rfl,hoff⟩:=hcond
 injection he with he
 subst he
 have hflat:Flat ys:=hok0
 obtain ⟨hl,hS,ρ,Fr,m,ht⟩:=hs
 obtain ⟨f,f1,f2,f3⟩:=copySrc_sound m (ev_sound ht hy) hsrc
 have hvx:=(ev_sound ht hx).ref_inv
 cases hvx with
 | fv hf=>cases hf
 | ref h1 h2 h3=>
 obtain ⟨-,-,bc,h4,A,cap,h5,h6,h7⟩:=h1 1 xs (by simp [getRow,hlr,subRow])
 simp only [refAt,hlr,placeAt] at h4
 subst h4
 have f3':=f3 (min ys.length n) (Nat.min_le_left _ _)
 obtain ⟨m0,hm0⟩:∃ m0,m0=min ys.length n:=⟨_,rfl⟩
 have hsp:=splice_get (xs:=xs) (ys:=ys) hoff
 rw [←hm0] at f3' hsp ⊢
 have hxl:(xs.take off++(ys.take n++xs.drop (off + m0))).length=xs.length:=by simp;omega
 have hval:∀ k,k < m0→∃ x,ys[k]? = some [x]∧flatC x=true∧FC w (fun _=>True) x (f k):=fun k hk=>by
  have hk2:=List.getElem?_eq_getElem (l:=ys) (i:=k) (by omega)
  obtain ⟨x,h8,h9⟩:=f1 k _ hk2
  rw [h8] at hk2
  exact ⟨x,hk2,hflat [x] (List.mem_of_getElem? hk2) x (by simp),h9⟩
 -- what the machine does
 obtain ⟨w',hrun,hw'⟩:∃ w',(Builtin.copy_ #[t,u] o.type #[.slice A n cap,a.eval oy]).run X.P w = .ok (goInt m0) w'∧((m0=0∧w'=w)∨∃ g,(ρ r).1=some g∧w'=w.setCells g off ((List.range m0).map f)):=by
  have hi:∃ ii,X.P.info? el1=some ii∧ii.size=1:=⟨ie,hoke.info,by rw [hoke.size];exact hsz⟩
  obtain ⟨ii,hi1,hi2⟩:=hi
  have hmn:Nat.min ys.length n=m0:=hm0.symm
  rcases Nat.eq_zero_or_pos m0 with hz | hz
  ·refine ⟨w,?_, .inl ⟨hz,rfl⟩⟩
   rw [hz] at f3' hmn ⊢
   cases A<;>simp [Builtin.copy_,run_underlying u1,sizeOf,typeInfo,hi1,hi2,f2,hmn,f3',storeCells]
  ·obtain ⟨g,h8,rfl⟩:=h7 (by omega)
   rcases m.root r _ hlr with ⟨g',k1,k2,k3⟩ | ⟨-,k2⟩
   rotate_left
   ·subst k2;simp at hoff;omega
   rw [h8] at k1
   injection k1 with k1
   subst k1
   rcases k2.rows with ⟨k4,-⟩ | ⟨g2,cap2,cs,ty,fr,e1,e2,e3,e4,e5,e6,e7,e8⟩
   ·subst k4;simp at hoff;omega
   injection e1 with e1 _ _
   injection e1 with e1
   injection e1 with e1 _ _
   subst e1
   refine ⟨_,?_, .inr ⟨g,h8,rfl⟩⟩
   have hst:=run_storeCells_cells (P:=X.P) g off ((List.range m0).map f) 0 w (fun j hj=>by
     rw [Nat.add_zero,cell_of_heap e2]
     simp at hj ⊢
     omega) (fun j hj=>by
     have:=there_of (o:=off) (n:=m0) e2 e3 (by omega)
     simp at hj
     rw [Nat.add_zero]
     exact (this j hj).2) (fun v hv=>by
     obtain ⟨k,hk,rfl⟩:=List.mem_map.1 hv
     obtain ⟨x,-,-,h9⟩:=hval k (by simpa using hk)
     exact h9.one)
   simp only [Nat.mul_one,Nat.add_zero] at hst ⊢
   simp [Builtin.copy_,run_underlying u1,sizeOf,typeInfo,hi1,hi2,f2,hmn,f3',hst]
 have hrun':(execOp a.eval o).run X.P w = .ok (.value (goInt m0)) w':=by
  have e1:c.args = #[ox,oy]:=Array.toList_inj.1 (by simpa using hargs)
  have e2:c.argTypes = #[t,u]:=Array.toList_inj.1 (by simpa using hat)
  rw [←h5] at hrun
  simp [execOp,ho,resolve,hc,invoke,builtin,e1,e2,hrun]
 have hlook:∀ q,look q (applyWr [(r,some (Root.row 1 (xs.take off++(ys.take n++xs.drop (off + m0))) dt))] s.h)=if q=r then some (Root.row 1 (xs.take off++(ys.take n++xs.drop (off + m0))) dt) else look q s.h:=fun q=>by
  rw [look_applyWr]
  simp only [lastWr]
  by_cases h:q=r
  ·simp [h]
  ·simp [h,fun e=>h (Eq.symm e)]
 have honly:∀ q z,q ∈ [(r,some (Root.row 1 (xs.take off++(ys.take n++xs.drop (off + m0))) dt))].map (·.1)→look q (applyWr [(r,some (Root.row 1 (xs.take off++(ys.take n++xs.drop (off + m0))) dt))] s.h)=some z→q=r∧z=Root.row 1 (xs.take off++(ys.take n++xs.drop (off + m0))) dt:=fun q z hq hz=>by
  simp at hq
  subst hq
  rw [hlook,if_pos rfl] at hz
  injection hz with hz
  exact ⟨rfl,hz.symm⟩
 have hold:∀ (k l:Nat) (sz1:Nat) (ys1:List (List AV)),subRow 1 (xs.take off++(ys.take n++xs.drop (off + m0))) dt (some (k,l))=some (sz1,ys1)→subRow 1 xs dt (some (k,l))=some (sz1,ys1)∧¬ (off≤k∧k < off + m0):=fun k l sz1 ys1 hsub=>by
  obtain ⟨d1,c,d2,d3⟩:=subRow_inv hsub
  rw [hsp] at d2
  split at d2
  ·rename_i hr
   exfalso
   obtain ⟨x,h8,h9,-⟩:=hval (k - off) (by omega)
   rw [h8] at d2
   injection d2 with d2
   subst d2
   cases l with
   | zero=>
    simp at d3
    subst d3
    simp [flatC,flatCell] at h9
   | succ l=>simp at d3
  ·rename_i hr
   exact ⟨subRow_of d1 d2 d3,hr⟩
 refine ⟨_,goInt m0,w',hrun', .inl rfl,?_⟩
 have hbase:∀ g,(ρ r).1=some g→Fr r g:=fun g hg=>m.block hlr hg
 have hworld:w'.os=w.os∧w'.tape=w.tape∧w'.output=w.output∧w'.heap.size=w.heap.size∧(∀ b,(ρ r).1≠some b→w'.heap[b]? = w.heap[b]?)∧
   (∀ b,(ρ r).1=some b→b < X.w0.heap.size→ObjSame (X.Chg b) w.heap[b]? w'.heap[b]?)∧RowOK X w' (Fr r) (ρ r) 1 (xs.take off++(ys.take n++xs.drop (off + m0)))∧
   ∀ g k,(ρ r).1=some g→¬ (off≤k∧k < off + m0)→w'.cell? ⟨g,k,none⟩=w.cell? ⟨g,k,none⟩:=by
  rcases hw' with ⟨hz,rfl⟩ | ⟨g,h8,rfl⟩
  ·refine ⟨rfl,rfl,rfl,rfl,fun _ _=>rfl,fun _ _ _ => .inl rfl,?_,fun _ _ _ _=>rfl⟩
   have:xs.take off++(ys.take n++xs.drop (off + m0))=xs:=List.ext_getElem? fun k=>by
    rw [hsp,if_neg (by omega)]
   rw [this]
   exact m.root r _ hlr
  ·rcases m.root r _ hlr with ⟨g',k1,k2,k3⟩ | ⟨k1,k2⟩
   rotate_left
   ·rw [k1] at h8;cases h8
   rw [h8] at k1
   injection k1 with k1
   subst k1
   rcases k2.rows with ⟨k4,k5⟩ | ⟨g2,cap2,cs,ty,fr,e1,e2,e3,e4,e5,e6,e7,e8⟩
   ·cases k5
   injection e1 with e1 _ e1'
   injection e1 with e1
   injection e1 with e1 _ _
   subst e1
   obtain ⟨z1,z2,z3,z4,z5,z6⟩:=setCells_heap ((List.range m0).map f) off e2
   obtain ⟨s1,s2⟩:=setL_get ((List.range m0).map f) cs off
   have s2':=s2 (by simp;omega)
   simp only [List.length_map,List.length_range] at s2'
   refine ⟨z4,z5,z6,z3,fun b hb=>z2 b (fun e=>hb (e ▸ h8)),fun b hb hb0 => ?_,?_,fun g3 k hg hk => ?_⟩
   ·rw [h8] at hb
    injection hb with hb
    subst hb
    rw [e2,z1]
    exact ObjSame.free hb0 (k3 g e6) s1
   ·refine .inl ⟨g,h8,?_,k3⟩
    obtain ⟨Fs,r1,r2,r3,r4⟩:=e7
    have hrow:=OC.row (w:=w.setCells g off ((List.range m0).map f)) (F:=Fr r) (sz:=1) (xs:=xs.take off++(ys.take n++xs.drop (off + m0))) (g:=g) (cap:=cap2) (cs:=setL cs off ((List.range m0).map f)) (ty:=ty) (fr:=fr)
     (fun k l b=>¬ (off≤k∧k < off + m0)∧Fs k l b) z1 (fun k hk=>e3 k (by rw [s1] at hk;exact hk)) (by rw [s1];exact e4) (by rw [hxl];exact e5) e6 (fun k l b hb=>r1 k l b hb.2) (fun k l k' l' b hb hb'=>r2 k l k' l' b hb.2 hb'.2) (fun k c hk=>by
      rw [hsp] at hk
      split at hk
      ·rename_i hr
       obtain ⟨x,h9,-⟩:=hval (k - off) (by omega)
       rw [h9] at hk
       injection hk with hk
       subst hk
       rfl
      ·exact r3 k c hk) (fun k l c x v hk hl' hv=>by
      have hlen:l=0:=by
       rw [hsp] at hk
       split at hk
       ·obtain ⟨x,h9,-⟩:=hval (k - off) (by omega)
        rw [h9] at hk
        injection hk with hk
        subst hk
        have:=lt_len hl'
        simpa using this
       ·have:=r3 k c hk
        have:=lt_len hl'
        omega
      subst hlen
      simp only [Nat.mul_one,Nat.add_zero] at hv
      rw [s2'] at hv
      rw [hsp] at hk
      split at hk
      ·rename_i hr
       rw [if_pos hr] at hv
       obtain ⟨x',h9,h10,h11⟩:=hval (k - off) (by omega)
       rw [h9] at hk
       injection hk with hk
       subst hk
       simp at hl'
       subst hl'
       rw [List.getElem?_map,List.getElem?_range (by omega)] at hv
       injection hv with hv
       subst hv
       have h12:FC (w.setCells g off ((List.range m0).map f)) (fun _=>True) x' (f (k - off)):=by
        generalize f (k - off)=z at h11 ⊢
        cases h11 with
        | int=>exact .int _ _
        | bool=>exact .bool _
        | str h=>exact .str h
        | unk h=>exact .unk h
        | nil=>simp [flatC,flatCell] at h10
        | row=>simp [flatC,flatCell] at h10
       exact h12.flat h10 _
      ·rename_i hr
       rw [if_neg hr] at hv
       have h9:=r4 k 0 c x hk hl'
       have h10:cs.getD (k * 1 + 0) Go.undef=v:=by simp [hv]
       simp only [h10] at h9
       exact (h9.move fun b hb=>z2 b (r1 k 0 b hb).2).mono fun b hb=>⟨hr,hb⟩)
    rw [hxl] at hrow ⊢
    rw [e1']
    exact hrow
   ·rw [h8] at hg
    injection hg with hg
    subst hg
    rw [cell_of_heap z1,cell_of_heap e2,s2',if_neg hk]
 obtain ⟨w1,w2,w3,w4,w5,w6,w7,w8⟩:=hworld
 refine Sim.write (i:=i) hl hS m ht (e:={ ok:=Flat ys,out := .int .i64 (m0:Int),wr := [(r,some (Root.row 1 (xs.take off++(ys.take n++xs.drop (off + m0))) dt))],rd:=r :: rd }) (ρ':=ρ) (Fr':=Fr) (fun _ _=>⟨rfl,rfl⟩) w1 w2 w3 (by omega) ?_ ?_ ?_ ?_ ?_ ?_ hd (.up (.up (.fv (.int _ _)))) (by simp [rids,rid2,rid1]) ?_
 ·intro b hb hk
  exact w5 b (fun e=>hk r _ (by simp) hlr (hbase b e))
 ·intro b q y hq hy' hf hb
  by_cases hbg:(ρ r).1=some b
  ·exact w6 b hbg hb
  ·exact .inl (w5 b hbg)
 ·intro q z hq hz
  obtain ⟨rfl,rfl⟩:=honly q z hq hz
  exact w7
 ·intro q z b hq hz hb
  obtain ⟨rfl,rfl⟩:=honly q z hq hz
  exact ⟨by have:=(m.foot q _ b hlr hb).1;omega, .inr ⟨q,_,by simp,hlr,hb⟩⟩
 ·intro q z q' z' b hq hq' hz hz' _ _
  rw [(honly q z hq hz).1,(honly q' z' hq' hz').1]
 ·intro q hq hlq
  simp at hq
  subst hq
  refine Compat.row hlr (by rw [hlook,if_pos rfl]) rfl (by rw [hxl]) (fun k l sz1 ys1 hs1 => ?_)
  obtain ⟨h8,h9⟩:=hold k l sz1 ys1 hs1
  refine ⟨ys1,h8,rfl,fun g hg => ?_⟩
  have hl0:l=0:=by
   obtain ⟨-,c,d2,d3⟩:=subRow_inv h8
   rcases m.root q _ hlr with ⟨g',k1,k2,k3⟩ | ⟨k1,k2⟩
   ·rcases k2.rows with ⟨k4,-⟩ | ⟨g2,cap2,cs,ty,fr,e1,e2,e3,e4,e5,e6,⟨Fs,r1,r2,r3,r4⟩,e8⟩
    ·subst k4;simp at d2
    ·have:=r3 k c d2
     have:=lt_len d3
     omega
   ·subst k2;simp at d2
  subst hl0
  exact w8 g _ hg (by omega)
 ·intro q z hq hz
  obtain ⟨rfl,rfl⟩:=honly q z hq hz
  exact ⟨(hl q (.inr ⟨q,_,hlr, .inl rfl⟩)).mono fun _ h => .inl h,by simp [ridsBox]⟩
end

section
variable {X:Fix} {D:Nat→Prop} {s:St} {a:Act} {w:World} {i:Nat} {o:Oper} {T:Types}
theorem pure1_inv {x:Option AV} {e:Eff} (h:pure1 x=some e):∃ v,x=some v∧e={ out:=v }:=by
 cases x with
 | none=>cases h
 | some v=>injection h with h;exact ⟨v,rfl,h.symm⟩
theorem optOp_inv {x:Option Operand} {y:Option AV} (h:optOp s.ev x=some y):(y=none→x=none)∧∀ v,y=some v→∃ z,x=some z∧s.ev z=some v:=by
 cases x with
 | none=>
  simp only [optOp,Option.some.injEq] at h
  subst h
  exact ⟨fun _=>rfl,fun v hv=>by cases hv⟩
 | some z=>
  simp only [optOp,Option.map_eq_some_iff] at h
  obtain ⟨u,h1,h2⟩:=h
  subst h2
  exact ⟨fun h=>(by cases h),fun v hv=>by injection hv with hv;subst hv;exact ⟨z,rfl,h1⟩⟩
theorem Sim.val (hs:Sim X D s a w) (hd:∀ d,o.dst=some d→d < a.tmps.size) {x:AV} {e:Eff} (he:e.wr = []) (heo:e.out=x)
  (hx:∀ ρ Fr,Mem X s.h ρ Fr w→Tmps X s.t s.h ρ w a→(∃ v,(execOp a.eval o).run X.P w = .ok (.value v) w∧VR w X.S s.h ρ x v)∧∀ r ∈ rids x,Men s r):Done X D s a w i o e:=by
 obtain ⟨ok,out,wr,rd⟩:=e
 simp only at he heo
 subst he heo
 obtain ⟨-,-,ρ,Fr,m,ht⟩:=id hs
 exact Sim.pure hs hd (hx ρ Fr m ht).2 (fun ρ Fr m ht=>(hx ρ Fr m ht).1)
theorem men_of {x y:AV} {ox:Operand} (hx:s.ev ox=some x) (h:∀ q ∈ rids y,q ∈ rids x):∀ r ∈ rids y,Men s r:=fun r hr=>ev_men hx r (h r hr)
theorem FV.men {S:Nat→Prop} {x:AV} {v:Value} (h:FV w S x v):∀ r ∈ rids x,Men s r:=fun r hr=>by rw [h.norid.2.2] at hr;cases hr
theorem args_one {l:List Operand} {x:AV} (h:evList s l=some [x]):∃ o1,l = [o1]∧s.ev o1=some x:=by
 obtain ⟨h1,h2⟩:=evList_get h
 obtain ⟨o1,h3,h4⟩:=h2 0 x rfl
 cases l with
 | nil=>simp at h3
 | cons y l=>
  simp at h1 h3
  subst h1 h3
  exact ⟨y,rfl,h4⟩
theorem args_two {l:List Operand} {x y:AV} (h:evList s l=some [x,y]):∃ o1 o2,l = [o1,o2]∧s.ev o1=some x∧s.ev o2=some y:=by
 obtain ⟨h1,h2⟩:=evList_get h
 obtain ⟨o1,h3,h4⟩:=h2 0 x rfl
 obtain ⟨o2,h5,h6⟩:=h2 1 y rfl
 match l,h1,h3,h5 with
 | [p,q],_,h3,h5=>
  simp at h3 h5
  subst h3 h5
  exact ⟨p,q,rfl,h4,h6⟩
theorem len_done (hT:TOk X.P T) (hs:Sim X D s a w) (hd:∀ d,o.dst=some d→d < a.tmps.size) {c:Call} (ho:o.op = .call c) (hc:c.callee = .builtin .len) {ox:Operand} (hargs:c.args.toList = [ox]) {t:TypeId} {ts:List TypeId} (hat:c.argTypes.toList=t :: ts) {x:AV} (hx:s.ev ox=some x) {e:Eff} (he:pure1 (absLen T t x)=some e):Done X D s a w i o e:=by
 obtain ⟨v,hv,rfl⟩:=pure1_inv he
 have e1:c.args = #[ox]:=Array.toList_inj.1 (by simpa using hargs)
 have e2:c.argTypes[0]? = some t:=by rw [←Array.getElem?_toList,hat];rfl
 have key:∀ (w:World) (q:Value),(Builtin.len_ c.argTypes o.type #[a.eval ox]).run X.P w = .ok q w→(execOp a.eval o).run X.P w = .ok (.value q) w:=by
  intro w q hq
  simp [execOp,ho,resolve,hc,invoke,builtin,e1,hq]
 refine Sim.val hs hd rfl rfl (fun ρ Fr m ht => ?_)
 have hu:=ev_sound ht hx
 unfold absLen at hv
 split at hv
 ·obtain ⟨sb,h1,h2⟩:=hu.str_inv
  split at hv
  ·rename_i hti
   obtain ⟨ii,dd,zz,hok⟩:=hT _ _ hti
   have hk:=hok.kok
   have hun:=hok.und
   cases dd<;>simp only [KOK] at hk
   injection hv with hv
   subst hv
   refine ⟨⟨_,key w _ (by simp only [Builtin.len_,e2,h1];simp [Go.run_underlying hun,goInt];try rfl),?_⟩,by simp [rids,rid2,rid1]⟩
   rw [size_data,h2]
   exact .up (.up (.fv (.int _ _)))
  ·cases hv
 ·obtain ⟨A,c',h1,-⟩:=hu.frz_inv.1.slice_inv
  split at hv
  ·rename_i hti
   obtain ⟨ii,dd,zz,hok⟩:=hT _ _ hti
   have hk:=hok.kok
   have hun:=hok.und
   cases dd<;>simp only [KOK] at hk
   injection hv with hv
   subst hv
   exact ⟨⟨_,key w _ (by simp only [Builtin.len_,e2,h1];simp [Go.run_underlying hun,goInt];try rfl), .up (.up (.fv (.int _ _)))⟩,by simp [rids,rid2,rid1]⟩
  ·cases hv
 ·split at hv
  ·rename_i hti
   obtain ⟨ii,dd,zz,hok⟩:=hT _ _ hti
   have hk:=hok.kok
   have hun:=hok.und
   cases dd<;>simp only [KOK] at hk
   injection hv with hv
   subst hv
   have hv2:=hu.ref_inv
   cases hv2 with
   | fv hf=>cases hf
   | ref g1 g2 g3=>
    obtain ⟨A,c',h1,-⟩:=g3
    exact ⟨⟨_,key w _ (by simp only [Builtin.len_,e2,h1];simp [Go.run_underlying hun,goInt];try rfl), .up (.up (.fv (.int _ _)))⟩,by simp [rids,rid2,rid1]⟩
  ·cases hv
 ·cases hv
theorem minmax_done (hs:Sim X D s a w) (hd:∀ d,o.dst=some d→d < a.tmps.size) {c:Call} (ho:o.op = .call c) {as:List AV} (hargs:evList s c.args.toList=some as) {e:Eff}
  (he:(c.callee = .builtin .min∧pure1 (minInt as)=some e)∨(c.callee = .builtin .max∧pure1 (maxInt as)=some e)):Done X D s a w i o e:=by
 have key:∀ k p k' q,as = [.int k p, .int k' q]→∀ {ρ:Rho},Tmps X s.t s.h ρ w a→∃ o1 o2,c.args = #[o1,o2]∧a.eval o1 = .int k p∧a.eval o2 = .int k' q:=by
  intro k p k' q h ρ ht
  subst h
  obtain ⟨o1,o2,h1,h2,h3⟩:=args_two hargs
  exact ⟨o1,o2,Array.toList_inj.1 (by simpa using h1),(ev_sound ht h2).int_inv,(ev_sound ht h3).int_inv⟩
 rcases he with ⟨hc,he⟩ | ⟨hc,he⟩
 ·obtain ⟨v,hv,rfl⟩:=pure1_inv he
  unfold minInt at hv
  split at hv
  ·rename_i k p k' q
   injection hv with hv
   subst hv
   refine Sim.val hs hd rfl rfl (fun ρ Fr m ht=>⟨⟨_,?_, .up (.up (.fv (.int _ _)))⟩,by simp [rids,rid2,rid1]⟩)
   obtain ⟨o1,o2,h1,h2,h3⟩:=key _ _ _ _ rfl ht
   simp [execOp,ho,resolve,hc,invoke,builtin,h1,h2,h3,Builtin.min_,Builtin.min2]
  ·cases hv
 ·obtain ⟨v,hv,rfl⟩:=pure1_inv he
  unfold maxInt at hv
  split at hv
  ·rename_i k p k' q
   injection hv with hv
   subst hv
   refine Sim.val hs hd rfl rfl (fun ρ Fr m ht=>⟨⟨_,?_, .up (.up (.fv (.int _ _)))⟩,by simp [rids,rid2,rid1]⟩)
   obtain ⟨o1,o2,h1,h2,h3⟩:=key _ _ _ _ rfl ht
   simp [execOp,ho,resolve,hc,invoke,builtin,h1,h2,h3,Builtin.max_,Builtin.max2]
  ·cases hv
theorem index_sound {P:Program} {S:Nat→Prop} {h:Heap} {ρ:Rho} (hT:TOk P T) {t:TypeId} {x ix r:AV} {u v:Value} (hx:VR w S h ρ x u) (hi:VR w S h ρ ix v) (hr:indexAV T t x ix=some r):∃ q,(Instr.index t u v).run P w = .ok q w∧VR w S h ρ r q∧rids r = []:=by
 unfold indexAV at hr
 split at hr
 ·rename_i k n hti
  obtain ⟨ii,dd,zz,hok⟩:=hT _ _ hti
  have hk:=hok.kok
  have hun:=hok.und
  cases dd<;>simp only [KOK] at hk
  obtain ⟨sb,rfl,h2⟩:=hx.str_inv
  have:=hi.int_inv
  subst this
  split at hr
  ·rename_i hb
   split at hr
   ·rename_i b hb2
    injection hr with hr
    subst hr
    have hlt:n.toNat < sb.size:=by rw [size_data,h2];omega
    have hlt':0≤n∧n < sb.size:=⟨hb.1,by omega⟩
    refine ⟨_,by rw [run_index_string w t sb k n hun,dif_pos hlt'],?_,rfl⟩
    have:sb[n.toNat]'(by omega)=b:=by
     subst h2
     have h3:sb.data.toList[n.toNat]? = some b:=hb2
     have h4:sb.data[n.toNat]? = some b:=by simpa using h3
     obtain ⟨h5,h6⟩:=Array.getElem?_eq_some_iff.1 h4
     exact h6
    rw [this]
    exact .up (.up (.fv (.int _ _)))
   ·cases hr
  ·cases hr
 ·cases hr
theorem unary_sound {P:Program} {S:Nat→Prop} {h:Heap} {ρ:Rho} {op:UnOp} {x r:AV} {u:Value} (hx:VR w S h ρ x u) (hr:absUn op x=some r):∃ q,(Op.unary op u).run P w = .ok q w∧VR w S h ρ r q∧rids r = []:=by
 unfold absUn at hr
 split at hr
 ·injection hr with hr
  subst hr
  have:=hx.bool_inv
  subst this
  exact ⟨_,rfl, .up (.up (.fv (.bool _))),rfl⟩
 ·injection hr with hr
  subst hr
  have:=hx.int_inv
  subst this
  exact ⟨_,rfl, .up (.up (.fv (.int _ _))),rfl⟩
 ·cases hr
theorem aop_done (hT:TOk X.P T) (hs:Sim X D s a w) (hD:¬ D i) (hd:∀ d,o.dst=some d→d < a.tmps.size) {e:Eff} (he:aop T s i o=some e) (hok0:e.ok):Done X D s a w i o e:=by
 cases ho:o.op with
 | move x=>
  simp only [aop,ho] at he
  obtain ⟨v,hv,rfl⟩:=pure1_inv he
  exact Sim.val hs hd rfl rfl (fun ρ Fr m ht=>⟨⟨_,by simp only [execOp,ho];rfl,ev_sound ht hv⟩,ev_men hv⟩)
 | assign x=>
  simp only [aop,ho] at he
  obtain ⟨v,hv,rfl⟩:=pure1_inv he
  exact Sim.val hs hd rfl rfl (fun ρ Fr m ht=>⟨⟨_,by simp only [execOp,ho];rfl,ev_sound ht hv⟩,ev_men hv⟩)
 | pick c x y=>
  simp only [aop,ho,pickAV] at he
  split at he
  ·rename_i hc
   obtain ⟨v,hv,rfl⟩:=pure1_inv he
   refine Sim.val hs hd rfl rfl (fun ρ Fr m ht=>⟨⟨a.eval x,?_,ev_sound ht hv⟩,ev_men hv⟩)
   simp [execOp,ho,(ev_sound ht hc).bool_inv,asBool]
  ·rename_i hc
   obtain ⟨v,hv,rfl⟩:=pure1_inv he
   refine Sim.val hs hd rfl rfl (fun ρ Fr m ht=>⟨⟨a.eval y,?_,ev_sound ht hv⟩,ev_men hv⟩)
   simp [execOp,ho,(ev_sound ht hc).bool_inv,asBool]
  ·cases he
 | alloc t=>exact alloc_done hT hs hD hd ho he hok0
 | box t x=>exact box_done hT hs hD hd ho he hok0
 | build t parts=>
  simp only [aop,ho] at he
  split at he
  ·rename_i fs _ _ z ps hti hps
   split at he
   ·rename_i cs hf
    obtain ⟨v,hv,rfl⟩:=pure1_inv he
    obtain ⟨p1,p2⟩:=evParts_get hps
    refine Sim.val hs hd rfl rfl (fun ρ Fr m ht => ?_)
    obtain ⟨vs,k1,k2,k3⟩:=build_sound (P:=X.P) (w:=w) (S:=X.S) (h:=s.h) (ρ:=ρ) hT hti (parts:=parts.map fun (i,x)=>(i,a.eval x)) hf (by simp [p1]) (fun k i x hk=>by
     obtain ⟨y,q1,q2⟩:=p2 k i x hk
     refine ⟨a.eval y,?_,ev_sound ht q2⟩
     have q1':parts[k]? = some (i,y):=by simpa using q1
     simp [q1'])
    refine ⟨⟨_,by simp only [execOp,ho,Sem.run_bind,k1,Result.andThen_ok,Sem.run_pure],wrap1_agg hv k2 k3⟩,fun q hq => ?_⟩
    obtain ⟨rfl,hp⟩:=wrap1_inv hv
    simp only [rids,rid2,List.mem_flatMap] at hq
    obtain ⟨d,hd1,hd2⟩:=hq
    obtain ⟨ii,dd,zz,hok⟩:=hT _ _ hti
    refine fillStruct_mem (T:=T) (R:=fun d=>∀ q ∈ rid1 d,Men s q) hf (fun c hc q hq => ?_) (fun p hp c hc q hq => ?_) d hd1 q hd2
    ·obtain ⟨k,hk⟩:=List.mem_iff_getElem?.1 hc
     have hlt:k < zz.cells.size:=by rw [hok.zsize,←hok.zlen];exact lt_len hk
     have:=(hok.zok k c _ hk (Array.getElem?_eq_getElem hlt)).fv (w:=w) (S:=X.S)
     rw [this.norid.1] at hq
     cases hq
    ·obtain ⟨k,hk⟩:=List.mem_iff_getElem?.1 hp
     obtain ⟨y,q1,q2⟩:=p2 k p.1 p.2 hk
     refine ev_men q2 q ?_
     have hvv:=ev_sound ht q2
     by_cases hagg:∃ cs',p.2 = .agg cs'
     ·obtain ⟨cs',hcs⟩:=hagg
      rw [hcs] at hc ⊢
      simp only [rids,rid2,List.mem_flatMap]
      exact ⟨c,hc,hq⟩
     ·have hc0:cellsOf p.2 = [p.2]:=by
       cases hp2:p.2<;>first | rfl | exact absurd ⟨_,hp2⟩ hagg
      rw [hc0] at hc
      simp at hc
      subst hc
      cases hp2:p.2<;>rw [hp2] at hq<;>first | exact hq | (simp [rid1] at hq)
   ·cases he
  ·cases he
 | buildSlice t n parts=>exact buildSlice_done hT hs hD hd ho he hok0
 | makeSlice t l c=>exact makeSlice_done hT hs hD hd ho he hok0
 | load t x=>
  simp only [aop,ho] at he
  split at he
  ·rename_i y hy
   obtain ⟨-,-,ρ0,Fr0,m0,ht0⟩:=id hs
   refine Sim.val hs hd (loadAV_sound hT m0 (ev_sound ht0 hy) he).1 rfl (fun ρ Fr m ht => ?_)
   obtain ⟨-,-,⟨q,h1,h2⟩,h3⟩:=loadAV_sound hT m (ev_sound ht hy) he
   refine ⟨⟨q,by simp only [execOp,ho,Sem.run_bind,h1,Result.andThen_ok,Sem.run_pure],h2⟩,fun r hr => ?_⟩
   rcases h3 r hr with h4 | ⟨q,y,h4,h5⟩
   ·exact ev_men hy r h4
   ·exact .inr ⟨q,y,h4, .inr h5⟩
  ·cases he
 | store t x y=>
  simp only [aop,ho] at he
  split at he
  ·rename_i u v hu hv
   exact store_done hT hs hD hd ho hu hv he
  ·cases he
 | nilCheck x=>
  simp only [aop,ho] at he
  split at he
  ·rename_i r p i' j hx
   injection he with he
   subst he
   refine Sim.val hs hd rfl rfl (fun ρ Fr m ht=>⟨⟨a.eval x,?_,ev_sound ht hx⟩,ev_men hx⟩)
   have hv:=(ev_sound ht hx).ptr_inv
   cases hv':hv with
   | fv hf=>cases hf
   | ptr h1 h2=>
    obtain ⟨A,hA⟩:=h2
    simp only [execOp,ho,hA]
    rfl
  ·rename_i cs hx
   injection he with he
   subst he
   refine Sim.val hs hd rfl rfl (fun ρ Fr m ht=>⟨⟨a.eval x,?_,ev_sound ht hx⟩,ev_men hx⟩)
   have hv:=(ev_sound ht hx).fptr_inv
   obtain ⟨A,hA⟩:∃ A,a.eval x = .pointer (some A):=by
    generalize a.eval x=q at hv
    cases hv
    exact ⟨_,rfl⟩
   simp only [execOp,ho,hA]
   rfl
  ·cases he
 | fieldAddr t x f=>
  simp only [aop,ho] at he
  split at he
  ·rename_i y hy
   obtain ⟨v,hv,rfl⟩:=pure1_inv he
   refine Sim.val hs hd rfl rfl (fun ρ Fr m ht => ?_)
   obtain ⟨⟨q,h1,h2⟩,h3⟩:=fieldAddrAV_sound hT (ev_sound ht hy) hv
   exact ⟨⟨q,by simp only [execOp,ho,Sem.run_bind,h1,Result.andThen_ok,Sem.run_pure],h2⟩,men_of hy h3⟩
  ·cases he
 | field t x f=>
  simp only [aop,ho] at he
  split at he
  ·rename_i y hy
   obtain ⟨v,hv,rfl⟩:=pure1_inv he
   refine Sim.val hs hd rfl rfl (fun ρ Fr m ht => ?_)
   obtain ⟨⟨q,h1,h2⟩,h3⟩:=fieldAV_sound hT (ev_sound ht hy) hv
   exact ⟨⟨q,by simp only [execOp,ho,Sem.run_bind,h1,Result.andThen_ok,Sem.run_pure],h2⟩,men_of hy h3⟩
  ·cases he
 | indexAddr t x ix=>
  simp only [aop,ho] at he
  split at he
  ·rename_i y z hy hz
   obtain ⟨-,-,ρ0,Fr0,m0,ht0⟩:=id hs
   refine Sim.val hs hd (indexAddrAV_sound hT m0 (ev_sound ht0 hy) (ev_sound ht0 hz) he).1 rfl (fun ρ Fr m ht => ?_)
   obtain ⟨-,-,⟨q,h1,h2⟩,h3⟩:=indexAddrAV_sound hT m (ev_sound ht hy) (ev_sound ht hz) he
   exact ⟨⟨q,by simp only [execOp,ho,Sem.run_bind,h1,Result.andThen_ok,Sem.run_pure],h2⟩,men_of hy h3⟩
  ·cases he
 | index t x ix=>
  simp only [aop,ho] at he
  split at he
  ·rename_i y z hy hz
   obtain ⟨v,hv,rfl⟩:=pure1_inv he
   refine Sim.val hs hd rfl rfl (fun ρ Fr m ht => ?_)
   obtain ⟨q,h1,h2,h3⟩:=index_sound hT (ev_sound ht hy) (ev_sound ht hz) hv
   exact ⟨⟨q,by simp only [execOp,ho,Sem.run_bind,h1,Result.andThen_ok,Sem.run_pure],h2⟩,by simp [h3]⟩
  ·cases he
 | slice t x lo hi mx=>
  cases mx with
  | some _=>simp only [aop,ho] at he;cases he
  | none=>
   simp only [aop,ho] at he
   split at he
   ·rename_i y lo' hi' hy hlo hhi
    obtain ⟨v,hv,rfl⟩:=pure1_inv he
    obtain ⟨l1,l2⟩:=optOp_inv hlo
    obtain ⟨l3,l4⟩:=optOp_inv hhi
    refine Sim.val hs hd rfl rfl (fun ρ Fr m ht => ?_)
    obtain ⟨⟨q,h1,h2⟩,h3⟩:=sliceAV_sound (P:=X.P) hT (ev_sound ht hy) (lo:=lo') (hi:=hi') (ulo:=lo.map a.eval) (uhi:=hi.map a.eval)
     (fun x hx=>by obtain ⟨z,z1,z2⟩:=l2 x hx;exact ⟨a.eval z,by rw [z1];rfl,ev_sound ht z2⟩) (fun h=>by rw [l1 h];rfl)
     (fun x hx=>by obtain ⟨z,z1,z2⟩:=l4 x hx;exact ⟨a.eval z,by rw [z1];rfl,ev_sound ht z2⟩) (fun h=>by rw [l3 h];rfl) hv
    exact ⟨⟨q,by simp only [execOp,ho,Sem.run_bind,Option.map_none,h1,Result.andThen_ok,Sem.run_pure],h2⟩,men_of hy h3⟩
   ·cases he
 | binOp op t x y u=>
  simp only [aop,ho] at he
  split at he
  ·rename_i p q hp hq
   obtain ⟨v,hv,rfl⟩:=pure1_inv he
   refine Sim.val hs hd rfl rfl (fun ρ Fr m ht => ?_)
   obtain ⟨z,h1,h2⟩:=absBin_sound (P:=X.P) hT (ev_sound ht hp) (ev_sound ht hq) hv x y
   exact ⟨⟨z,by simp only [execOp,ho];rw [Sem.run_bind,h1];rfl, .up (.up (.fv h2))⟩,h2.men⟩
  ·cases he
 | unOp op t x=>
  simp only [aop,ho] at he
  split at he
  ·rename_i p hp
   obtain ⟨v,hv,rfl⟩:=pure1_inv he
   refine Sim.val hs hd rfl rfl (fun ρ Fr m ht => ?_)
   obtain ⟨z,h1,h2,h3⟩:=unary_sound (P:=X.P) (ev_sound ht hp) hv
   exact ⟨⟨z,by simp only [execOp,ho,Sem.run_bind,h1,Result.andThen_ok,Sem.run_pure],h2⟩,by simp [h3]⟩
  ·cases he
 | convert src dst x=>
  simp only [aop,ho] at he
  split at he
  ·rename_i p hp
   unfold convertAV at he
   split at he
   ·split at he
    ·rename_i hsrc hdst
     injection he with he
     subst he
     obtain ⟨i1,d1,z1,ok1⟩:=hT _ _ hsrc
     obtain ⟨i2,d2,z2,ok2⟩:=hT _ _ hdst
     have k1:=ok1.kok
     have k2:=ok2.kok
     have u1:=ok1.und
     have u2:=ok2.und
     cases d1<;>simp only [KOK] at k1
     cases d2<;>simp only [KOK] at k2
     subst k1 k2
     refine Sim.val hs hd rfl rfl (fun ρ Fr m ht=>⟨⟨_,?_, .up (.up (.fv (.int _ _)))⟩,by simp [rids,rid2,rid1]⟩)
     simp only [execOp,ho,(ev_sound ht hp).int_inv]
     simp [convert,Go.run_underlying u1,Go.run_underlying u2,Conv.intToInt]
    ·cases he
   ·split at he
    ·rename_i hsrc hdst
     split at he
     ·rename_i hel
      split at he
      ·injection he with he
       subst he
       exact stringBytes_done hT hs hD hd ho hp hsrc hdst hel
      ·cases he
     ·cases he
    ·rename_i hsrc hdst
     injection he with he
     subst he
     obtain ⟨i1,d1,z1,ok1⟩:=hT _ _ hsrc
     obtain ⟨i2,d2,z2,ok2⟩:=hT _ _ hdst
     have k1:=ok1.kok
     have k2:=ok2.kok
     have u1:=ok1.und
     have u2:=ok2.und
     cases d1<;>simp only [KOK] at k1
     cases d2<;>simp only [KOK] at k2
     refine Sim.val hs hd rfl rfl (fun ρ Fr m ht => ?_)
     obtain ⟨sb,h1,h2⟩:=(ev_sound ht hp).str_inv
     refine ⟨⟨.string sb,?_, .up (.up (.fv (.str h2)))⟩,by simp [rids,rid2,rid1]⟩
     simp only [execOp,ho,h1]
     simp [convert,Go.run_underlying u1,Go.run_underlying u2]
    ·cases he
   ·split at he
    ·rename_i hsrc hdst
     split at he
     ·rename_i hel
      split at he
      ·rename_i ys rs hel2
       split at he
       ·rename_i l hl
        injection he with he
        subst he
        obtain ⟨i1,d1,z1,ok1⟩:=hT _ _ hsrc
        obtain ⟨i2,d2,z2,ok2⟩:=hT _ _ hdst
        obtain ⟨i3,d3,z3,ok3⟩:=hT _ _ hel
        have k1:=ok1.kok
        have k2:=ok2.kok
        have k3:=ok3.kok
        have u1:=ok1.und
        have u2:=ok2.und
        have u3:=ok3.und
        cases d1<;>simp only [KOK] at k1
        cases d2<;>simp only [KOK] at k2
        cases d3<;>simp only [KOK] at k3
        subst k1 k3
        refine Sim.val hs hd rfl rfl (fun ρ Fr m ht => ?_)
        obtain ⟨sb,h1,h2⟩:=bytes_string u1 u3 u2 hl (elems_sound m (ev_sound ht hp) hel2)
        exact ⟨⟨.string sb,by simp only [execOp,ho,Sem.run_bind,h1,Result.andThen_ok,Sem.run_pure], .up (.up (.fv (.str h2)))⟩,by simp [rids,rid2,rid1]⟩
       ·cases he
      ·cases he
     ·cases he
    ·cases he
  ·cases he
 | makeFunc f first caps=>
  cases f with
  | func f=>
   simp only [aop,ho] at he
   split at he
   ·rename_i cs hf hcs
    split at he
    ·rename_i hc
     injection he with he
     subst he
     obtain ⟨c1,c2⟩:=hc
     rw [List.all_eq_true] at c1 c2
     obtain ⟨p1,p2⟩:=evList_get hcs
     have hf':first = #[]:=Array.toList_inj.1 (by simpa using hf)
     refine Sim.val hs hd rfl rfl (fun ρ Fr m ht=>⟨⟨.func (.func f) #[] (caps.map a.eval),?_, .up (.fn (by simp [p1]) (fun k x v hk hv => ?_))⟩,fun q hq => ?_⟩)
     ·simp [execOp,ho,Instr.makeFunc,hf']
     ·obtain ⟨y,y1,y2⟩:=p2 k x hk
      have hm:=List.mem_of_getElem? hk
      have y1':caps[k]? = some y:=by simpa using y1
      have hv':v=a.eval y:=by
       rw [Array.getElem?_map,y1'] at hv
       simpa using hv.symm
      subst hv'
      exact (ev_sound ht y2).to_va (c1 x hm) (fun f' cs' e=>by
       have:=c2 x hm
       rw [e] at this
       cases this)
     ·simp only [rids,rid2,List.mem_flatMap] at hq
      obtain ⟨c,hc1,hc2⟩:=hq
      obtain ⟨k,hk⟩:=List.mem_iff_getElem?.1 hc1
      obtain ⟨y,y1,y2⟩:=p2 k c hk
      refine ev_men y2 q ?_
      cases c<;>first | exact hc2 | (simp [rid1] at hc2)
    ·cases he
   ·cases he
  | _=>simp only [aop,ho] at he;cases he
 | extract x k=>
  simp only [aop,ho] at he
  split at he
  ·rename_i vs hx
   obtain ⟨v,hv,rfl⟩:=pure1_inv he
   refine Sim.val hs hd rfl rfl (fun ρ Fr m ht => ?_)
   obtain ⟨us,h1,h2,h3⟩:=(ev_sound ht hx).tup_inv
   have hlt:k < us.size:=by rw [h2];exact lt_len hv
   have h4:=h3 k v _ hv (Array.getElem?_eq_getElem hlt)
   refine ⟨⟨us[k],?_, .up h4⟩,fun q hq=>ev_men hx q ?_⟩
   ·simp [execOp,ho,h1,Instr.extract,hlt]
   ·simp only [rids,List.mem_flatMap]
    exact ⟨v,List.mem_of_getElem? hv,by rw [←h4.rids_eq];exact hq⟩
  ·cases he
 | call c=>
  simp only [aop,ho] at he
  split at he
  ·rename_i b hc
   split at he
   ·rename_i as hargs
    split at he
    ·rename_i x
     split at he
     ·rename_i t ts hat
      obtain ⟨ox,h1,h2⟩:=args_one hargs
      exact len_done hT hs hd ho hc h1 hat h2 he
     ·cases he
    ·rename_i x y
     split at he
     ·rename_i t u hat
      obtain ⟨ox,oy,h1,h2,h3⟩:=args_two hargs
      exact append_done hT hs hD hd ho hc h1 hat h2 h3 he hok0
     ·cases he
    ·rename_i x y
     split at he
     ·rename_i t u hat
      obtain ⟨ox,oy,h1,h2,h3⟩:=args_two hargs
      exact copy_done hT hs hD hd ho hc h1 hat h2 h3 he hok0
     ·cases he
    ·exact minmax_done hs hd ho hargs (.inl ⟨hc,he⟩)
    ·exact minmax_done hs hd ho hargs (.inr ⟨hc,he⟩)
    ·cases he
   ·cases he
  ·cases he
 | _=>simp only [aop,ho] at he;cases he
end

section
def RowFs (w:World) (F:Nat→Prop) (sz:Nat) (xs:List (List AV)) (v:Value) (Fs:Nat→Nat→Nat→Prop):Prop:=
 ∃ (g cap:Nat) (cs:Array Value) (ty:TypeId) (fr:Nat × Nat),v = .slice (some ⟨g,0,none⟩) xs.length cap∧w.heap[g]? = some (.cells cs ty fr)∧Thaw cs fr∧cap * sz≤cs.size∧xs.length≤cap∧F g∧
   (∀ i j b,Fs i j b→F b∧b≠g)∧(∀ i j i' j' b,Fs i j b→Fs i' j' b→i=i'∧j=j')∧
   (∀ (i:Nat) (c:List AV),xs[i]? = some c→c.length=sz)∧
   (∀ (i j:Nat) (c:List AV) (a:AV),xs[i]? = some c→c[j]? = some a→∃ u,cs[i * sz + j]? = some u∧OC w (Fs i j) a u)
open Classical in
noncomputable def SubFs (w:World) (F:Nat→Prop) (sz:Nat) (xs:List (List AV)) (v:Value):Nat→Nat→Nat→Prop:=
 if h:∃ Fs,RowFs w F sz xs v Fs then Classical.choose h else fun _ _ _=>False
theorem SubFs_spec {w:World} {F:Nat→Prop} {sz:Nat} {xs:List (List AV)} {v:Value} (h:∃ Fs,RowFs w F sz xs v Fs):RowFs w F sz xs v (SubFs w F sz xs v):=by
 unfold SubFs
 rw [dif_pos h]
 exact Classical.choose_spec h
def SubF (w:World) (h:Heap) (ρ:Rho) (Fr:Rid→Nat→Prop) (r:Rid) (i j b:Nat):Prop:=match look r h with
 | some (.row sz xs _)=>SubFs w (Fr r) sz xs (.slice (addrOf (ρ r).1) xs.length (ρ r).2) i j b
 | _=>False
def Rest (w:World) (h:Heap) (ρ:Rho) (Fr:Rid→Nat→Prop) (a:AV) (b:Nat):Prop:=match a with
 | .ref r (some (i,j)) _ _ _ _=>Fr r b∧¬ SubF w h ρ Fr r i j b
 | _=>False
section
variable {X:Fix} {w w':World} {h:Heap} {ρ:Rho} {Fr:Rid→Nat→Prop}
theorem sub_spec (m:Mem X h ρ Fr w) {r:Rid} {szr:Nat} {xs:List (List AV)} {dt:List Nat} (hl:look r h=some (.row szr xs dt)) (hx:xs ≠ []) :
  ∃ g,(ρ r).1=some g∧RowFs w (Fr r) szr xs (.slice (some ⟨g,0,none⟩) xs.length (ρ r).2) (SubF w h ρ Fr r)∧∀ b,Fr r b→Free X b:=by
 rcases m.root r _ hl with ⟨g,k1,k2,k3⟩ | ⟨-,k2⟩
 ·refine ⟨g,k1,?_,k3⟩
  have:SubF w h ρ Fr r=SubFs w (Fr r) szr xs (.slice (some ⟨g,0,none⟩) xs.length (ρ r).2):=by
   funext i j b
   simp only [SubF,hl,k1,addrOf,Option.map_some]
  rw [this]
  refine SubFs_spec ?_
  rcases k2.row_inv with ⟨k4,-⟩ | ⟨g2,cap2,cs,ty2,fr2,Fs,f⟩
  ·exact absurd k4 hx
  ·exact ⟨Fs,g2,cap2,cs,ty2,fr2,f⟩
 ·exact absurd k2 hx
theorem sub_row (m:Mem X h ρ Fr w) {r:Rid} {szr i j sz sz' n:Nat} {nl:Option Bool} {xs ys:List (List AV)} {dt:List Nat} {v:Value} (hv:VR w X.S h ρ (.ref r (some (i,j)) sz 0 n nl) v) (hl:look r h=some (.row szr xs dt))
  (hs:subRow szr xs dt (some (i,j))=some (sz',ys)) (hn:ys.length=n) :
  sz'=sz∧OC w (SubF w h ρ Fr r i j) (.row sz' ys) v∧(∀ b,SubF w h ρ Fr r i j b→Fr r b∧Free X b)∧∃ (g:Nat) (c:Option Nat × Nat),(ρ r).1=some g∧Fr r g∧¬ SubF w h ρ Fr r i j g∧v = .slice (addrOf c.1) n c.2:=by
 obtain ⟨hdt,c1,hxi,hcj⟩:=subRow_inv hs
 obtain ⟨g,k1,k2,k3⟩:=sub_spec m hl (by rintro rfl;simp at hxi)
 obtain ⟨g2,cap2,cs,ty2,fr2,f1,f2,f3,f4,f5,f6,f7,f8,f9,f10⟩:=k2
 injection f1 with f1 _ f1'
 injection f1 with f1
 injection f1 with f1 _ _
 subst f1
 cases hv.ref_inv with
 | fv hf=>cases hf
 | ref h1 h2 h3=>
  obtain ⟨rfl,g2,bc,g3,A,cap,e1,e2,e3⟩:=h1 sz' ys (by simp [getRow,hl,hs])
  simp only [refAt,hl,placeAt] at g3
  obtain ⟨g',n',p1,p2⟩:=g3
  rw [k1] at p1
  injection p1 with p1
  subst p1
  obtain ⟨rfl,rfl⟩:=e2 rfl
  obtain ⟨u,r1,r2⟩:=f10 i j c1 _ hxi hcj
  rw [cell_of_heap f2,r1] at p2
  injection p2 with p2
  subst p2
  have hn':n'=ys.length:=by
   rcases r2.row_inv with ⟨q1,q2⟩ | ⟨_,_,_,_,_,_,q1,-⟩
   ·injection q2 with _ q3 _
    rw [q1,q3];rfl
   ·injection q1 with _ q3 _
  subst hn'
  refine ⟨rfl,by rw [e1,←hn];exact r2,fun b hb=>⟨(f7 _ _ _ hb).1,k3 b (f7 _ _ _ hb).1⟩,g,bc,k1,f6,fun hb=>(f7 _ _ _ hb).2 rfl,e1⟩
theorem sub_back (m:Mem X h ρ Fr w) {r:Rid} {szr i j sz n:Nat} {nl:Option Bool} {xs ys ys':List (List AV)} {dt:List Nat} {v:Value} (hv:VR w X.S h ρ (.ref r (some (i,j)) sz 0 n nl) v) (hl:look r h=some (.row szr xs dt))
  (hs:subRow szr xs dt (some (i,j))=some (sz,ys)) (hn:ys.length=n) {G:Nat→Prop} (ho:OC w' G (.row sz ys') v) (hkeep:∀ b,Fr r b→¬ SubF w h ρ Fr r i j b→w'.heap[b]? = w.heap[b]?)
  (hG:∀ b,G b→Fr r b→SubF w h ρ Fr r i j b):∃ g,(ρ r).1=some g∧w'.heap[g]? = w.heap[g]? ∧
   OC w' (fun b=>G b∨(Fr r b∧¬ SubF w h ρ Fr r i j b)) (.row szr (setSub xs (some (i,j)) ys')) (.slice (some ⟨g,0,none⟩) (setSub xs (some (i,j)) ys').length (ρ r).2):=by
 obtain ⟨-,r2,-,-⟩:=sub_row m hv hl hs hn
 obtain ⟨hdt,c1,hxi,hcj⟩:=subRow_inv hs
 obtain ⟨g,k1,k2,k3⟩:=sub_spec m hl (by rintro rfl;simp at hxi)
 obtain ⟨g2,cap2,cs,ty2,fr2,f1,f2,f3,f4,f5,f6,f7,f8,f9,f10⟩:=k2
 injection f1 with f1 _ f1'
 injection f1 with f1
 injection f1 with f1 _ _
 subst f1
 have hgn:¬ SubF w h ρ Fr r i j g:=fun hb=>(f7 _ _ _ hb).2 rfl
 have hgs:w'.heap[g]? = w.heap[g]?:=hkeep g f6 hgn
 refine ⟨g,k1,hgs,?_⟩
 have hset:setSub xs (some (i,j)) ys'=xs.set i (c1.set j (.row sz ys')):=by simp only [setSub,hxi,hcj]
 rw [hset]
 obtain ⟨u,r1,r3⟩:=f10 i j c1 _ hxi hcj
 have huv:u=v:=by
  cases hv.ref_inv with
  | fv hf=>cases hf
  | ref h1 h2 h3=>
   obtain ⟨-,g2,bc,g3,A,cap,e1,e2,e3⟩:=h1 sz ys (by simp [getRow,hl,hs])
   simp only [refAt,hl,placeAt] at g3
   obtain ⟨g',n',p1,p2⟩:=g3
   rw [k1] at p1
   injection p1 with p1
   subst p1
   obtain ⟨rfl,rfl⟩:=e2 rfl
   rw [cell_of_heap f2,r1] at p2
   injection p2 with p2
   subst p2
   have hn':n'=ys.length:=by
    rcases r3.row_inv with ⟨q1,q2⟩ | ⟨_,_,_,_,_,_,q1,-⟩
    ·injection q2 with _ q3 _
     rw [q1,q3];rfl
    ·injection q1 with _ q3 _
   rw [e1,hn',hn]
 subst huv
 have hlen:(xs.set i (c1.set j (.row sz ys'))).length=xs.length:=by simp
 have hmv:∀ k l c x v,xs[k]? = some c→c[l]? = some x→cs[k * szr + l]? = some v→(k≠i∨l≠j)→OC w' (SubF w h ρ Fr r k l) x v:=by
  intro k l c x v e1 e2 e3 hne
  obtain ⟨u0,v1,v2⟩:=f10 k l c x e1 e2
  rw [e3] at v1
  injection v1 with v1
  subst v1
  refine v2.move (w':=w') (fun b hb=>hkeep b (f7 _ _ _ hb).1 (fun hb' => ?_))
  obtain ⟨e4,e5⟩:=f8 _ _ _ _ b hb hb'
  rcases hne with h | h
  ·exact h e4
  ·exact h e5
 have:=OC.row (w:=w') (F:=fun b=>G b∨(Fr r b∧¬ SubF w h ρ Fr r i j b)) (sz:=szr) (xs:=xs.set i (c1.set j (.row sz ys'))) (g:=g) (cap:=cap2) (cs:=cs) (ty:=ty2) (fr:=fr2)
  (fun k l b=>if k=i∧l=j then G b∧b≠g else SubF w h ρ Fr r k l b) (by rw [hgs];exact f2) f3 f4 (by rw [hlen];exact f5) (.inr ⟨f6,hgn⟩)
  (fun k l b hb=>by
   split at hb
   ·exact ⟨.inl hb.1,hb.2⟩
   ·rename_i hne
    refine ⟨.inr ⟨(f7 _ _ _ hb).1,fun hb'=>hne (f8 _ _ _ _ b hb hb')⟩,(f7 _ _ _ hb).2⟩)
  (fun k l k' l' b hb hb'=>by
   split at hb<;>split at hb'
   ·rename_i e1 e2;exact ⟨e1.1.trans e2.1.symm,e1.2.trans e2.2.symm⟩
   ·rename_i e1 e2
    exact absurd (f8 _ _ _ _ b hb' (hG b hb.1 (f7 _ _ _ hb').1)) e2
   ·rename_i e1 e2
    exact absurd (f8 _ _ _ _ b hb (hG b hb'.1 (f7 _ _ _ hb).1)) e1
   ·exact f8 _ _ _ _ b hb hb')
  (fun k c hk=>by
   rw [List.getElem?_set] at hk
   split at hk
   ·split at hk
    ·injection hk with hk
     subst hk
     simpa using f9 _ _ hxi
    ·cases hk
   ·exact f9 _ _ hk)
  (fun k l c' x v hk hj hv=>by
   have hgG:∀ b,G b→b≠g:=fun b hb e=>by
    subst e
    exact hgn (hG b hb f6)
   rw [List.getElem?_set] at hk
   split at hk
   ·rename_i ek
    subst ek
    split at hk
    ·injection hk with hk
     subst hk
     rw [List.getElem?_set] at hj
     split at hj
     ·rename_i ej
      subst ej
      split at hj
      ·injection hj with hj
       subst hj
       rw [r1] at hv
       injection hv with hv
       subst hv
       refine ho.mono fun b hb => ?_
       simp only [and_self,if_true]
       exact ⟨hb,hgG b hb⟩
      ·cases hj
     ·rename_i ej
      refine (hmv _ _ _ _ _ hxi hj hv (.inr (Ne.symm ej))).mono fun b hb => ?_
      show if i=i∧l=j then _ else _
      rw [if_neg (fun e=>ej e.2.symm)]
      exact hb
    ·cases hk
   ·rename_i ek
    refine (hmv _ _ _ _ _ hk hj hv (.inl (Ne.symm ek))).mono fun b hb => ?_
    show if k=i∧l=j then _ else _
    rw [if_neg (fun e=>ek e.1.symm)]
    exact hb)
 rw [f1']
 exact this
theorem Compat.sub {h':Heap} {ρ':Rho} {r:Rid} {szr i j sz:Nat} {xs ys ys':List (List AV)} {dt:List Nat} (hl:look r h=some (.row szr xs dt)) (hs:subRow szr xs dt (some (i,j))=some (sz,ys)) (hlen:ys'.length=ys.length)
  (hl':look r h'=some (.row szr (setSub xs (some (i,j)) ys') dt)) (hρ:ρ' r=ρ r) (hg:∀ g,(ρ r).1=some g→w'.heap[g]? = w.heap[g]?):Compat w h ρ w' h' ρ' r:=by
 obtain ⟨hdt,c1,hxi,hcj⟩:=subRow_inv hs
 have hset:setSub xs (some (i,j)) ys'=xs.set i (c1.set j (.row sz ys')):=by simp only [setSub,hxi,hcj]
 rw [hset] at hl'
 refine Compat.row hl hl' hρ (by simp) (fun k l sz2 ys2 hs1 => ?_)
 obtain ⟨d1,c1',d2,d3⟩:=subRow_inv hs1
 have hold:∃ c ys0,xs[k]? = some c∧c[l]? = some (.row sz2 ys0)∧ys2.length=ys0.length:=by
  rw [List.getElem?_set] at d2
  split at d2
  ·rename_i ek
   subst ek
   split at d2
   ·injection d2 with d2
    subst d2
    rw [List.getElem?_set] at d3
    split at d3
    ·rename_i ej
     subst ej
     split at d3
     ·simp only [Option.some.injEq,AV.row.injEq] at d3
      obtain ⟨rfl,rfl⟩:=d3
      exact ⟨c1,ys,hxi,hcj,hlen⟩
     ·cases d3
    ·exact ⟨c1,ys2,hxi,d3,rfl⟩
   ·cases d2
  ·exact ⟨_,ys2,d2,d3,rfl⟩
 obtain ⟨c',ys0,d4,d5,d6⟩:=hold
 exact ⟨ys0,subRow_of d1 d4 d5,d6,fun g' hg'=>cell_congr (hg g' hg') _⟩
end

end
inductive CellR (w:World) (S:Nat→Prop) (F:Nat→Prop):AV→Value→Prop
 | fv {a v} (h:FV w S a v):CellR w S F a v
 | row {sz xs v} (h:OC w F (.row sz xs) v):CellR w S F (.row sz xs) v
def CellsR (w:World) (S:Nat→Prop) (F:Nat→Prop) (cs:List AV) (f:Nat→Value):Prop:=
 ∃ Fs:Nat→Nat→Prop,(∀ k b,Fs k b→F b)∧(∀ k k' b,Fs k b→Fs k' b→k=k')∧∀ (k:Nat) (a:AV),cs[k]? = some a→CellR w S (Fs k) a (f k)
def BoxR (w:World) (S:Nat→Prop) (F:Nat→Prop) (cs:List AV) (g o:Nat):Prop:=
 ∃ (vs:Array Value) (ty:TypeId) (fr:Nat × Nat),w.heap[g]? = some (.cells vs ty fr)∧Thaw vs fr∧o + cs.length≤vs.size∧F g∧CellsR w S (fun b=>F b∧b≠g) cs (fun k=>vs.getD (o + k) Go.undef)
def ArgR (w:World) (S:Nat→Prop) (F:Nat→Prop):AV→Value→Prop
 | .row sz xs,v=>OC w F (.row sz xs) v
 | .wptr cs,v=>∃ g o,v = .pointer (some ⟨g,o,none⟩)∧BoxR w S F cs g o
 | .agg cs,v=>∃ vs:Array Value,v = .agg vs∧vs.size=cs.length∧CellsR w S F cs (fun k=>vs.getD k Go.undef)
 | a,v=>FV w S a v
def Grant (F:Nat→Prop):AV→Value→Nat→Nat→Prop
 | .row _ _,_,b,_=>F b
 | .wptr cs,v,b,k=>∃ g o,v = .pointer (some ⟨g,o,none⟩)∧((F b∧b≠g)∨(b=g∧o≤k∧k < o + cs.length))
 | .agg cs,_,b,_=>cs.any isRow=true∧F b
 | _,_,_,_=>False
def ResR1 (w:World) (S:Nat→Prop) (F:Nat→Prop):AV→Value→Prop
 | .row sz xs,v=>OC w F (.row sz xs) v
 | .agg cs,v=>∃ vs:Array Value,v = .agg vs∧vs.size=cs.length∧CellsR w S F cs (fun k=>vs.getD k Go.undef)
 | a,v=>FV w S a v
def ResR (w:World) (S:Nat→Prop) (F:Nat→Prop):AV→Value→Prop
 | .tup rs,v=>∃ vs:Array Value,v = .tuple vs∧vs.size=rs.length∧∃ Fs:Nat→Nat→Prop,(∀ k b,Fs k b→F b)∧(∀ k k' b,Fs k b→Fs k' b→k=k')∧
   ∀ (k:Nat) (a:AV),rs[k]? = some a→ResR1 w S (Fs k) a (vs.getD k Go.undef)
 | .wptr cs,v=>∃ g o,v = .pointer (some ⟨g,o,none⟩)∧BoxR w S F cs g o
 | .pp _ _ _ _ _,_=>True
 | a,v=>ResR1 w S F a v
def PPres (w':World) (vs:List Value) (outs:List AV):AV→Value→Prop
 | .pp k c p i j,v=>∃ (g0 o0 n g sz sz':Nat) (bc bc':Option Nat × Nat) (ds:List AV) (xs ys:List (List AV)),vs[k]? = some (.pointer (some ⟨g0,o0,none⟩))∧outs[k]? = some (.wptr ds)∧ds[c]? = some (.row sz xs)∧
   subRow sz xs [] p=some (sz',ys)∧w'.cell? ⟨g0,o0 + c,none⟩=some (.slice (addrOf bc.1) n bc.2)∧placeAt w' bc sz p bc'∧bc'.1=some g∧v = .pointer (some ⟨g,i * sz' + j,none⟩)
 | _,_=>True
def OutR (w:World) (S:Nat→Prop) (F:Nat→Prop):AV→Value→Prop
 | .row sz xs,v=>OC w F (.row sz xs) v
 | .wptr cs,v=>∃ g o,v = .pointer (some ⟨g,o,none⟩)∧BoxR w S F cs g o
 | .agg os,v=>∃ vs:Array Value,v = .agg vs∧∃ Fs:Nat→Nat→Prop,(∀ k b,Fs k b→F b)∧(∀ k k' b,Fs k b→Fs k' b→k=k')∧∀ (k sz:Nat) (xs:List (List AV)),os[k]? = some (.row sz xs)→OC w (Fs k) (.row sz xs) (vs.getD k Go.undef)
 | _,_=>True
def Framed (Chg:Nat→Nat→Prop) (w w':World):Prop:=
 w'.os=w.os∧w'.tape=w.tape∧w'.output=w.output∧w.heap.size≤w'.heap.size∧∀ b,b < w.heap.size→ObjSame (Chg b) w.heap[b]? w'.heap[b]?
def Does (P:Program) (f:FuncId) (vs:Array Value) (w:World) (R:Value→World→Prop):Prop:=
 ((callFunc f vs).run P w = .ok (.enter f vs) w∧Calls P f vs w fun e w''=>∃ v,e = .returned v∧R v w'')∨∃ v w',(callFunc f vs).run P w = .ok (.value v) w'∧R v w'
def Granted (F:Nat→Nat→Prop) (args:List AV) (vs:List Value) (b m:Nat):Prop:=∃ k a u,args[k]? = some a∧vs[k]? = some u∧Grant (F k) a u b m
def Snd (P:Program) (f:FuncId) (args:List AV) (res:AV) (outs:List AV):Prop:=
 outs.length=args.length∧∀ (w:World) (S:Nat→Prop) (vs:List Value) (F:Nat→Nat→Prop),vs.length=args.length→
  (∀ b,S b→b < w.heap.size)→(∀ k k' b,F k b→F k' b→k=k')→(∀ k b,F k b→b < w.heap.size∧¬ S b)→
  (∀ (k:Nat) (a:AV) (v:Value),args[k]? = some a→vs[k]? = some v→ArgR w S (F k) a v)→
  Does P f vs.toArray w fun v w'=>Framed (Granted F args vs) w w'∧
   ∃ G:Nat→Nat→Prop,(∀ k k' b,G k b→G k' b→k=k')∧
    (∀ k b,G k b→b < w'.heap.size∧(w.heap.size≤b∨(∃ k',F k' b)∧((∀ m,Granted F args vs b m)∨∃ k1 o,k=k1 + 1∧vs[k1]? = some (.pointer (some ⟨b,o,none⟩)))))∧
    ResR w' S (G 0) res v∧(∀ (k:Nat) (o:AV) (u:Value),outs[k]? = some o→vs[k]? = some u→OutR w' S (G (k + 1)) o u)∧PPres w' vs outs res v
section
variable {X:Fix} {w:World} {h:Heap} {ρ:Rho} {Fr:Rid→Nat→Prop}
def Also (X:Fix) (h:Heap) (Fr:Rid→Nat→Prop) (rs:List Rid) (b:Nat):Prop:=X.S b∨Own h Fr rs b
theorem Also.mono {rs rs':List Rid} (hs:∀ r ∈ rs,r ∈ rs') {b:Nat} (ha:Also X h Fr rs b):Also X h Fr rs' b:=by
 rcases ha with ha | ⟨q,y,h1,h2⟩
 ·exact .inl ha
 ·exact .inr ⟨q,y,hs q h1,h2⟩
theorem FV.mono {S S':Nat→Prop} {a:AV} {v:Value} (hf:FV w S a v) (hs:∀ b,S b→S' b):FV w S' a v:=hf.move fun b hb _=>⟨hs b hb,rfl⟩
theorem getRow_some {r:Rid} {p:Path} {x:Nat × List (List AV)} (hg:getRow h r p=some x):∃ y,look r h=some y:=by
 unfold getRow at hg
 cases hl:look r h with
 | none=>rw [hl] at hg;cases hg
 | some y=>exact ⟨y,rfl⟩
theorem getChunk_some {r:Rid} {p:Path} {i:Nat} {x:List AV} (hg:getChunk h r p i=some x):∃ y,look r h=some y:=by
 unfold getChunk at hg
 cases hl:look r h with
 | none=>rw [hl] at hg;cases hg
 | some y=>exact ⟨y,rfl⟩
theorem cellR_sound (m:Mem X h ρ Fr w) {a b:AV} {v:Value} {rs:List Rid} (hv:VB w X.S h ρ a v) (hc:cellR h a=some (b,rs)):FV w (Also X h Fr rs) b v:=by
 unfold cellR at hc
 split at hc
 ·-- row
  cases hv with | up hv=>cases hv with | fv hf=>cases hf
 ·-- ref
  rename_i r p sz off n nl
  split at hc
  ·rename_i sz' xs hg
   split at hc
   ·rename_i hsz
    subst hsz
    simp only [Option.some.injEq,Prod.mk.injEq] at hc
    obtain ⟨rfl,rfl⟩:=hc
    cases hv with
    | up hv=>
    cases hv with
    | fv hf=>cases hf
    | ref h1 h2 h3=>
     refine .frz ?_ h2
     obtain ⟨-,g2,bc,g3,g4⟩:=h1 _ _ hg
     obtain ⟨F,f1,f2⟩:=placed m hg g3
     obtain ⟨A,c,rfl,hcap,hnil⟩:=h3
     obtain ⟨y,hy⟩:=getRow_some hg
     have hlen:((xs.drop off).take n).length=n:=by simp;omega
     obtain ⟨A',c',e1,e2,e3⟩:=g4
     injection e1 with e1 _ e1'
     subst e1 e1'
     rcases Nat.eq_zero_or_pos n with rfl | hn
     ·cases A with
      | none=>
       have:=hnil rfl
       subst this
       simp only [List.take_zero]
       exact .nil _
      | some B=>
       have:=FC.row (w:=w) (S:=Also X h Fr [r]) (sz:=sz') (xs := []) (A:=B) (cap:=c) (fun _ _=>Go.undef) (by simp) (by simp) (by simp) (by simp)
       simpa using this
     ·obtain ⟨g,e4,e5⟩:=e3 hn
      subst e5
      rcases f2 with ⟨rfl,-⟩ | ⟨g',k1,k2⟩
      ·simp at g2;omega
      ·rw [e4] at k1
       injection k1 with k1
       subst k1
       rcases k2.row_inv with ⟨rfl,-⟩ | ⟨g3,cap2,cs,ty,fr,Fs,w1,w2,w3,w4,w5,w6,w7,w8,w9,w10⟩
       ·simp at g2;omega
       ·injection w1 with w1 _ _
        injection w1 with w1
        injection w1 with w1 _ _
        subst w1
        have hget:∀ (i:Nat) (c0:List AV),((xs.drop off).take n)[i]? = some c0→xs[off + i]? = some c0:=by
         intro i c0 hi
         rw [List.getElem?_take] at hi
         split at hi
         ·simpa using hi
         ·cases hi
        have:=FC.row (w:=w) (S:=Also X h Fr [r]) (sz:=sz') (xs:=(xs.drop off).take n) (A:=⟨g,off * sz',none⟩) (cap:=c) (fun i j=>cs.getD ((off + i) * sz' + j) Go.undef) (by omega)
         (fun i c0 hi=>w9 _ _ (hget i c0 hi))
         (fun i j c0 a hi hj=>by
          obtain ⟨u,q1,q2⟩:=w10 _ j c0 a (hget i c0 hi) hj
          refine ⟨rfl, .inr ⟨r,y,by simp,hy,f1 _ w6⟩,?_⟩
          rw [cell_of_heap w2]
          have:off * sz' + (i * sz' + j)=(off + i) * sz' + j:=by simp only [Nat.add_mul];omega
          simp only
          rw [this]
          simp [q1])
         (fun i j c0 a hi hj=>by
          obtain ⟨u,q1,q2⟩:=w10 _ j c0 a (hget i c0 hi) hj
          have hu:cs.getD ((off + i) * sz' + j) Go.undef=u:=by simp [q1]
          show FC w _ a (cs.getD ((off + i) * sz' + j) Go.undef)
          rw [hu]
          exact q2.read (fun b hb => .inr ⟨r,y,by simp,hy,f1 _ (w7 _ _ b hb).1⟩))
        rw [hlen] at this
        exact this
   ·cases hc
  ·cases hc
 ·cases hc
 ·cases hc
 ·cases hc
 ·cases hc
 ·cases hc
 ·-- fn
  split at hc
  ·rename_i hall
   simp only [Option.some.injEq,Prod.mk.injEq] at hc
   obtain ⟨rfl,rfl⟩:=hc
   cases hv with
   | up hv=>cases hv with | fv hf=>exact hf.mono fun b hb => .inl hb
   | fn hn hc2=>
    refine .fn hn (fun k a v h1 h2 => ?_)
    have hfp:=List.all_eq_true.1 hall a (List.mem_of_getElem? h1)
    have h3:=hc2 k a v h1 h2
    cases h3 with
    | fv hf=>exact hf.mono fun b hb => .inl hb
    | ref=>simp [isFp] at hfp
    | ptr=>simp [isFp] at hfp
  ·cases hc
 ·rename_i hx1 hx2 hx3 hx4 hx5 hx6 hx7 hx8
  simp only [Option.some.injEq,Prod.mk.injEq] at hc
  obtain ⟨rfl,rfl⟩:=hc
  cases hv with
  | up hv=>cases hv with
   | fv hf=>exact hf.mono fun b hb => .inl hb
   | ref=>exact absurd rfl (hx2 _ _ _ _ _ _)
   | ptr=>exact absurd rfl (hx3 _ _ _ _)
  | agg=>exact absurd rfl (hx6 _)
  | fn=>exact absurd rfl (hx8 _ _)
theorem cellsR_sound (m:Mem X h ρ Fr w):∀ {as bs:List AV} {rs:List Rid},cellsR h as=some (bs,rs)→bs.length=as.length∧∀ (f:Nat→Value),(∀ (k:Nat) (a:AV),as[k]? = some a→VB w X.S h ρ a (f k))→∀ (k:Nat) (b:AV),bs[k]? = some b→FV w (Also X h Fr rs) b (f k)
 | [],bs,rs,hc=>by
  simp only [cellsR,Option.some.injEq,Prod.mk.injEq] at hc
  obtain ⟨rfl,rfl⟩:=hc
  exact ⟨rfl,by simp⟩
 | a :: as,bs,rs,hc=>by
  simp only [cellsR] at hc
  split at hc
  ·rename_i b r bs' rs' h1 h2
   simp only [Option.some.injEq,Prod.mk.injEq] at hc
   obtain ⟨rfl,rfl⟩:=hc
   obtain ⟨g1,g2⟩:=cellsR_sound m h2
   refine ⟨by simp [g1],fun f hf k c hk => ?_⟩
   cases k with
   | zero=>
    simp at hk
    subst hk
    exact (cellR_sound m (hf 0 a rfl) h1).mono fun b hb=>hb.mono (by simp +contextual)
   | succ k=>exact (g2 (fun k=>f (k + 1)) (fun k a hk=>hf (k + 1) a (by simpa using hk)) k c (by simpa using hk)).mono fun b hb=>hb.mono (by simp +contextual)
  ·cases hc
theorem cellR_own {r:Rid} {y:Root} (hl:look r h=some y) {F:Nat→Prop} (hF:∀ b,F b→Fr r b) {a b:AV} {v:Value} {rs:List Rid} (hv:OC w F a v) (hc:cellR h a=some (b,rs)):FV w (Also X h Fr (r :: rs)) b v:=by
 have hown:∀ b,F b→Also X h Fr (r :: rs) b:=fun b hb => .inr ⟨r,y,by simp,hl,hF b hb⟩
 cases hv with
 | int=>simp only [cellR,Option.some.injEq,Prod.mk.injEq] at hc;obtain ⟨rfl,rfl⟩:=hc;exact .int _ _
 | bool=>simp only [cellR,Option.some.injEq,Prod.mk.injEq] at hc;obtain ⟨rfl,rfl⟩:=hc;exact .bool _
 | str hs=>simp only [cellR,Option.some.injEq,Prod.mk.injEq] at hc;obtain ⟨rfl,rfl⟩:=hc;exact .str hs
 | unk hu=>simp only [cellR,Option.some.injEq,Prod.mk.injEq] at hc;obtain ⟨rfl,rfl⟩:=hc;exact .unk hu
 | nil=>simp only [cellR,Option.some.injEq,Prod.mk.injEq] at hc;obtain ⟨rfl,rfl⟩:=hc;exact .frz (.nil _) (by simp)
 | row Fs hh ht hcap hlen hg hsub hdis hsz hcc=>
  simp only [cellR,Option.some.injEq,Prod.mk.injEq] at hc
  obtain ⟨rfl,rfl⟩:=hc
  exact .frz ((OC.row Fs hh ht hcap hlen hg hsub hdis hsz hcc).read hown) (by simp)
theorem cellsR_own {r:Rid} {y:Root} (hl:look r h=some y) {F:Nat→Prop} (hF:∀ b,F b→Fr r b):∀ {as bs:List AV} {rs:List Rid},cellsR h as=some (bs,rs)→∀ (f:Nat→Value),(∀ (k:Nat) (a:AV),as[k]? = some a→OC w F a (f k))→∀ (k:Nat) (b:AV),bs[k]? = some b→FV w (Also X h Fr (r :: rs)) b (f k)
 | [],bs,rs,hc=>by
  simp only [cellsR,Option.some.injEq,Prod.mk.injEq] at hc
  obtain ⟨rfl,rfl⟩:=hc
  simp
 | a :: as,bs,rs,hc=>by
  simp only [cellsR] at hc
  split at hc
  ·rename_i b r' bs' rs' h1 h2
   simp only [Option.some.injEq,Prod.mk.injEq] at hc
   obtain ⟨rfl,rfl⟩:=hc
   intro f hf k c hk
   cases k with
   | zero=>
    simp at hk
    subst hk
    exact (cellR_own (X:=X) hl hF (hf 0 a rfl) h1).mono fun b hb=>hb.mono (fun q hq=>by
     rcases List.mem_cons.1 hq with rfl | hq
     ·simp
     ·simp [hq])
   | succ k=>exact (cellsR_own hl hF h2 (fun k=>f (k + 1)) (fun k a hk=>hf (k + 1) a (by simpa using hk)) k c (by simpa using hk)).mono fun b hb=>hb.mono (fun q hq=>by
     rcases List.mem_cons.1 hq with rfl | hq
     ·simp
     ·simp [hq])
  ·cases hc
theorem boxR_sound (m:Mem X h ρ Fr w) {r:Rid} {p:Path} {i j:Nat} {v:Value} (hv:VA w X.S h ρ (.ptr r p i j) v) {c:List AV} (hg:getChunk h r p i=some c) {d bs:List AV} {rs:List Rid} (hd:∀ (k:Nat) (a:AV),d[k]? = some a→c[j + k]? = some a)
  (hc:cellsR h d=some (bs,rs)):FV w (Also X h Fr (r :: rs)) (.fptr bs) v:=by
 cases hv with
 | fv hf=>cases hf
 | ptr h1 h2=>
 obtain ⟨g,o,g1,rfl⟩:=h1 c hg
 obtain ⟨y,hy⟩:=getChunk_some hg
 obtain ⟨hlen,hfv⟩:=cellsR_sound m hc
 rcases chunked m hg g1 with ⟨cs,k1,k2,k3,rfl,k5⟩ | ⟨szr,xsr,dt,sz,ys,bc,k1,k2,k3,k4,k5,k6,F,k7,k8⟩
 ·-- a variable
  have hblk:Fr r g:=by
   unfold ptrAt at g1
   rw [k1] at g1
   obtain ⟨-,-,g1⟩:=g1
   exact m.block k1 (by rw [g1])
  obtain ⟨f,hf⟩:∃ f:Nat→Value,∀ k a,d[k]? = some a→w.cell? ⟨g,o + j + k,none⟩=some (f k)∧VB w X.S h ρ a (f k):=by
   refine ⟨fun k=>(w.cell? ⟨g,o + j + k,none⟩).getD Go.undef,fun k a hk => ?_⟩
   obtain ⟨v,q1,q2⟩:=k5 _ a (hd k a hk)
   rw [←Nat.add_assoc] at q1
   simp only [q1,Option.getD_some]
   exact ⟨trivial,q2⟩
  refine .fptr f rfl (fun k a hk => ?_) (fun k a hk => ?_)
  ·have hlt:=lt_len hk
   rw [hlen] at hlt
   exact ⟨.inr ⟨r,y,by simp,hy,hblk⟩,(hf k _ (List.getElem?_eq_getElem hlt)).1⟩
  ·exact (hfv f (fun k a hk=>(hf k a hk).2) k a hk).mono fun b hb=>hb.mono (by simp +contextual)
 ·-- an element
  rcases k8.row_inv with ⟨rfl,-⟩ | ⟨g3,cap2,cs,ty,fr,Fs,w1,w2,w3,w4,w5,w6,w7,w8,w9,w10⟩
  ·simp at k3
  ·injection w1 with w1 _ _
   injection w1 with w1
   injection w1 with w1 _ _
   subst w1
   have hf:∀ k a,d[k]? = some a→w.cell? ⟨g,o + j + k,none⟩=some (cs.getD (i * sz + (j + k)) Go.undef)∧OC w F a (cs.getD (i * sz + (j + k)) Go.undef):=by
    intro k a hk
    obtain ⟨u,q1,q2⟩:=w10 i (j + k) c a k3 (hd k a hk)
    have hu:cs.getD (i * sz + (j + k)) Go.undef=u:=by simp [q1]
    rw [hu,cell_of_heap w2,←q1,k6]
    exact ⟨by rw [Nat.add_assoc],q2.mono fun b hb=>(w7 _ _ b hb).1⟩
   refine .fptr (fun k=>cs.getD (i * sz + (j + k)) Go.undef) rfl (fun k a hk => ?_) (fun k a hk => ?_)
   ·have hlt:=lt_len hk
    rw [hlen] at hlt
    exact ⟨.inr ⟨r,y,by simp,hy,k7 _ w6⟩,(hf k _ (List.getElem?_eq_getElem hlt)).1⟩
   ·exact cellsR_own hy k7 hc (fun k=>cs.getD (i * sz + (j + k)) Go.undef) (fun k a hk=>(hf k a hk).2) k a hk
theorem capsR_sound (m:Mem X h ρ Fr w):∀ {as bs:List AV} {rs:List Rid},capsR h as=some (bs,rs)→bs.length=as.length∧∀ (f:Nat→Value),(∀ (k:Nat) (a:AV),as[k]? = some a→VA w X.S h ρ a (f k))→∀ (k:Nat) (b:AV),bs[k]? = some b→FV w (Also X h Fr rs) b (f k)
 | [],bs,rs,hc=>by
  simp only [capsR,Option.some.injEq,Prod.mk.injEq] at hc
  obtain ⟨rfl,rfl⟩:=hc
  exact ⟨rfl,by simp⟩
 | a :: as,bs,rs,hc=>by
  simp only [capsR] at hc
  split at hc
  ·rename_i b r bs' rs' h1 h2
   simp only [Option.some.injEq,Prod.mk.injEq] at hc
   obtain ⟨rfl,rfl⟩:=hc
   obtain ⟨g1,g2⟩:=capsR_sound m h2
   refine ⟨by simp [g1],fun f hf k c hk => ?_⟩
   cases k with
   | zero=>
    simp at hk
    subst hk
    have hva:=hf 0 a rfl
    have hfirst:FV w (Also X h Fr r) b (f 0):=by
     unfold capR at h1
     split at h1
     ·split at h1
      ·rename_i c' hg
       split at h1
       ·rename_i cs rs0 hcs
        simp only [Option.some.injEq,Prod.mk.injEq] at h1
        obtain ⟨rfl,rfl⟩:=h1
        exact boxR_sound m hva hg (fun k a hk=>by simpa using hk) hcs
       ·cases h1
      ·cases h1
     ·simp only [Option.some.injEq,Prod.mk.injEq] at h1
      obtain ⟨rfl,rfl⟩:=h1
      cases hva with
      | fv hf=>exact hf.mono fun b hb => .inl hb
     ·cases h1
    exact hfirst.mono fun b hb=>hb.mono (by simp +contextual)
   | succ k=>exact (g2 (fun k=>f (k + 1)) (fun k a hk=>hf (k + 1) a (by simpa using hk)) k c (by simpa using hk)).mono fun b hb=>hb.mono (by simp +contextual)
  ·cases hc
theorem passR_sound (m:Mem X h ρ Fr w) {a b:AV} {v:Value} {n:Nat} {rs:List Rid} (hv:VR w X.S h ρ a v) (hc:passR h n a=some (b,rs)):FV w (Also X h Fr rs) b v:=by
 unfold passR at hc
 split at hc
 ·-- struct
  obtain ⟨vs,rfl,v1,v2⟩:=hv.agg_inv
  split at hc
  ·rename_i cs rs0 hcs
   simp only [Option.some.injEq,Prod.mk.injEq] at hc
   obtain ⟨rfl,rfl⟩:=hc
   obtain ⟨g1,g2⟩:=cellsR_sound m hcs
   have hget:∀ (k:Nat) (a:AV),_→VB w X.S h ρ a (vs.getD k Go.undef):=fun k a (hk:_[k]? = some a)=>by
    have hlt:k < vs.size:=by rw [v1];exact lt_len hk
    have:vs.getD k Go.undef=vs[k]:=by simp [hlt]
    rw [this]
    exact .up (v2 k a _ hk (Array.getElem?_eq_getElem hlt))
   refine .agg (by rw [v1,g1]) (fun k a u hk hu => ?_)
   have:=g2 (fun k=>vs.getD k Go.undef) hget k a hk
   have hu':vs.getD k Go.undef=u:=by simp [hu]
   rw [hu'] at this
   exact this
  ·cases hc
 ·-- pointer
  split at hc
  ·rename_i c hg
   split at hc
   ·split at hc
    ·rename_i cs rs0 hcs
     simp only [Option.some.injEq,Prod.mk.injEq] at hc
     obtain ⟨rfl,rfl⟩:=hc
     refine boxR_sound m hv.ptr_inv hg (fun k a hk => ?_) hcs
     rw [List.getElem?_take] at hk
     split at hk
     ·simpa using hk
     ·cases hk
    ·cases hc
   ·cases hc
  ·cases hc
 ·-- frozen pointer
  rename_i cs
  split at hc
  ·simp only [Option.some.injEq,Prod.mk.injEq] at hc
   obtain ⟨rfl,rfl⟩:=hc
   have hf:=hv.fptr_inv
   clear hv
   cases hf with
   | fptr vs ha hv hc2=>
    have hget:∀ (k:Nat) (a:AV),(cs.take n)[k]? = some a→cs[k]? = some a:=fun k a hk=>by
     rw [List.getElem?_take] at hk
     split at hk
     ·exact hk
     ·cases hk
    exact .fptr vs ha (fun k a hk=>⟨.inl (hv k a (hget k a hk)).1,(hv k a (hget k a hk)).2⟩) (fun k a hk=>(hc2 k a (hget k a hk)).mono fun b hb => .inl hb)
  ·cases hc
 ·-- function
  split at hc
  ·rename_i cs rs0 hcs
   simp only [Option.some.injEq,Prod.mk.injEq] at hc
   obtain ⟨rfl,rfl⟩:=hc
   obtain ⟨vs,rfl,v1,v2⟩:=hv.fn_inv
   obtain ⟨g1,g2⟩:=capsR_sound m hcs
   refine .fn (by rw [v1,g1]) (fun k a u hk hu => ?_)
   have:=g2 (fun k=>vs.getD k Go.undef) (fun k a hk=>by
    have hlt:k < vs.size:=by rw [v1];exact lt_len hk
    have:vs.getD k Go.undef=vs[k]:=by simp [hlt]
    rw [this]
    exact v2 k a _ hk (Array.getElem?_eq_getElem hlt)) k a hk
   have hu':vs.getD k Go.undef=u:=by simp [hu]
   rw [hu'] at this
   exact this
  ·cases hc
 ·rename_i h1 h2 h3 h4
  exact cellR_sound m (hv.to_vb (fun cs e=>by subst e;cases hc)) hc
end

section
variable {X:Fix} {w:World} {h:Heap} {ρ:Rho} {Fr:Rid→Nat→Prop}
theorem CellR.mono {S S' F F':Nat→Prop} {a:AV} {v:Value} (hc:CellR w S F a v) (hS:∀ b,S b→S' b) (hF:∀ b,F b→F' b):CellR w S' F' a v:=by
 cases hc with
 | fv h=>exact .fv (h.mono hS)
 | row h=>exact .row (h.mono hF)
theorem CellsR.mono {S S' F F':Nat→Prop} {cs:List AV} {f:Nat→Value} (hc:CellsR w S F cs f) (hS:∀ b,S b→S' b) (hF:∀ b,F b→F' b):CellsR w S' F' cs f:=by
 obtain ⟨Fs,h1,h2,h3⟩:=hc
 exact ⟨Fs,fun k b hb=>hF b (h1 k b hb),h2,fun k a hk=>(h3 k a hk).mono hS fun _ h=>h⟩
theorem ArgR.mono {S S' F:Nat→Prop} {a:AV} {v:Value} (hc:ArgR w S F a v) (hS:∀ b,S b→S' b):ArgR w S' F a v:=by
 unfold ArgR at *
 split
 ·exact hc
 ·obtain ⟨g,o,h1,vs,ty,fr,h2,h3,h4,h5,h6⟩:=hc
  exact ⟨g,o,h1,vs,ty,fr,h2,h3,h4,h5,h6.mono hS fun _ h=>h⟩
 ·obtain ⟨vs,h1,h2,h3⟩:=hc
  exact ⟨vs,h1,h2,h3.mono hS fun _ h=>h⟩
 ·rename_i h1 h2 h3
  have hc':FV w S a v:=by
   split at hc
   ·exact absurd rfl (h1 _ _)
   ·exact absurd rfl (h2 _)
   ·exact absurd rfl (h3 _)
   ·exact hc
  exact hc'.mono hS
theorem FV.argR {S F:Nat→Prop} {a:AV} {v:Value} (hf:FV w S a v):ArgR w S F a v∧∀ b k,¬ Grant F a v b k:=by
 cases hf with
 | @agg cs vs hn hc=>
  have hk:∀ (k:Nat) (a:AV),cs[k]? = some a→FV w S a (vs.getD k Go.undef):=fun k a hk=>by
   have hlt:=lt_len hk
   rw [←hn] at hlt
   have:vs.getD k Go.undef=vs[k]:=by simp [hlt]
   rw [this]
   exact hc k a _ hk (Array.getElem?_eq_getElem hlt)
  refine ⟨⟨vs,rfl,hn,fun _ _=>False,fun _ _ h=>h.elim,fun _ _ _ h=>h.elim,fun k a h => .fv (hk k a h)⟩,fun b k hg => ?_⟩
  obtain ⟨a,ha,hr⟩:=List.any_eq_true.1 hg.1
  obtain ⟨j,hj⟩:=List.mem_iff_getElem?.1 ha
  have:=hk j a hj
  cases a<;>simp [isRow] at hr
  cases this
 | _=>refine ⟨?_,fun b k hg=>hg⟩<;>constructor<;>assumption
theorem cellW_sound (m:Mem X h ρ Fr w) {a b:AV} {v:Value} {rs:List Rid} (hv:VR w X.S h ρ a v) (hc:cellW h a=some (b,rs)) :
  ∃ F:Nat→Prop,(∀ blk,F blk→Own h Fr rs blk∧Free X blk)∧CellR w X.S F b v:=by
 unfold cellW at hc
 split at hc
 ·rename_i r sz n nl
  split at hc
  ·rename_i sz' xs dt hl
   split at hc
   ·rename_i hc2
    obtain ⟨rfl,rfl⟩:=hc2
    simp only [Option.some.injEq,Prod.mk.injEq] at hc
    obtain ⟨rfl,rfl⟩:=hc
    obtain ⟨⟨F,f1,f2⟩,rfl,-,-⟩:=whole_root m hv hl
    refine ⟨F,fun blk hb=>⟨⟨r,_,by simp,hl,(f1 blk hb).1⟩,(f1 blk hb).2⟩, .row ?_⟩
    rcases f2 with ⟨h1,h2⟩ | ⟨g,h1,h2⟩
    ·subst h1
     rw [h2]
     exact .nil _
    ·rw [h1]
     exact h2
   ·cases hc
  ·cases hc
 all_goals first
  |(simp only [Option.some.injEq,Prod.mk.injEq] at hc
    obtain ⟨rfl,rfl⟩:=hc
    refine ⟨fun _=>False,fun _ hb=>hb.elim, .fv ?_⟩
    cases hv with
    | up hv=>cases hv with
     | up hv=>cases hv with
      | fv hf=>exact hf)
  | cases hc
theorem cellsW_sound (m:Mem X h ρ Fr w):∀ {as bs:List AV} {rs:List Rid} {f:Nat→Value},cellsW h as=some (bs,rs)→rs.Nodup→(∀ (k:Nat) (a:AV),as[k]? = some a→VR w X.S h ρ a (f k))→
  bs.length=as.length∧CellsR w X.S (fun b=>Own h Fr rs b∧Free X b) bs f
 | [],bs,rs,f,hi,_,_=>by
  simp only [cellsW,Option.some.injEq,Prod.mk.injEq] at hi
  obtain ⟨rfl,rfl⟩:=hi
  exact ⟨rfl,fun _ _=>False,fun _ _ hb=>hb.elim,fun _ _ _ hb=>hb.elim,by simp⟩
 | a :: as,bs,rs,f,hi,hn,hv=>by
  simp only [cellsW] at hi
  split at hi
  ·rename_i b q bs' rs' h1 h2
   simp only [Option.some.injEq,Prod.mk.injEq] at hi
   obtain ⟨rfl,rfl⟩:=hi
   obtain ⟨hn1,hn2,hn3⟩:=List.nodup_append.1 hn
   obtain ⟨F,f1,f2⟩:=cellW_sound m (hv 0 a rfl) h1
   obtain ⟨g0,G,g1,g2,g3⟩:=cellsW_sound m (f:=fun k=>f (k + 1)) h2 hn2 (fun k a h3=>hv (k + 1) a (by simpa using h3))
   have hdj:∀ b,Own h Fr q b→Own h Fr rs' b→False:=fun b h3 h4=>Own.disj m (fun r hr hr'=>hn3 r hr r hr' rfl) h3 h4
   refine ⟨by simp [g0],fun k b=>match k with | 0=>F b | k + 1=>G k b,?_,?_,?_⟩
   ·intro k b hb
    cases k with
    | zero=>
     obtain ⟨⟨r,y,e1,e2⟩,e3⟩:=f1 b hb
     exact ⟨⟨r,y,by simp [e1],e2⟩,e3⟩
    | succ k=>
     obtain ⟨⟨r,y,e1,e2⟩,e3⟩:=g1 k b hb
     exact ⟨⟨r,y,by simp [e1],e2⟩,e3⟩
   ·intro k k' b hb hb'
    cases k with
    | zero=>cases k' with
     | zero=>rfl
     | succ k'=>exact (hdj b (f1 b hb).1 (g1 k' b hb').1).elim
    | succ k=>cases k' with
     | zero=>exact (hdj b (f1 b hb').1 (g1 k b hb).1).elim
     | succ k'=>rw [g2 k k' b hb hb']
   ·intro k c hk
    cases k with
    | zero=>simp at hk;subst hk;exact f2
    | succ k=>exact g3 k c (by simpa using hk)
  ·cases hi
theorem Own.of_append_left {rs qs:List Rid} {b:Nat} (ho:Own h Fr rs b):Own h Fr (rs++qs) b:=by
 obtain ⟨q,y,h1,h2⟩:=ho
 exact ⟨q,y,by simp [h1],h2⟩
theorem Own.of_append_right {rs qs:List Rid} {b:Nat} (ho:Own h Fr qs b):Own h Fr (rs++qs) b:=by
 obtain ⟨q,y,h1,h2⟩:=ho
 exact ⟨q,y,by simp [h1],h2⟩
theorem box_root {S:Nat→Prop} {r:Rid} {j:Nat} {v:Value} {cs:List AV} (hv:VR w S h ρ (.ptr r none 0 j) v) (hl:look r h=some (.box cs)):∃ g o,ρ r=(some g,o)∧v = .pointer (some ⟨g,o + j,none⟩):=by
 have hv:=hv.ptr_inv
 cases hv with
 | fv hf=>cases hf
 | ptr h1 h2=>
  obtain ⟨g,o,g1,g2⟩:=h1 cs (by simp [getChunk,hl])
  simp only [ptrAt,hl] at g1
  exact ⟨g,o,g1.2.2,g2⟩
theorem passW_sound (m:Mem X h ρ Fr w) {a b:AV} {v:Value} {n:Nat} {rs:List Rid} (hv:VR w X.S h ρ a v) (hc:passW h n a=some (b,rs)) (hn:rs.Nodup) :
  ∃ F:Nat→Prop,(∀ blk,F blk→Own h Fr rs blk)∧ArgR w X.S F b v∧(∀ blk k,Grant F b v blk k→X.w0.heap.size≤blk∨X.Chg blk k)∧(∀ blk,F blk→¬ Rest w h ρ Fr a blk)∧∀ blk,Rest w h ρ Fr a blk→Own h Fr rs blk∧Free X blk:=by
 unfold passW at hc
 split at hc
 ·-- a row
  rename_i r sz n nl
  have:cellW h (.ref r none sz 0 n nl)=some (b,rs):=hc
  obtain ⟨F,f1,f2⟩:=cellW_sound m hv this
  split at hc
  ·split at hc
   ·simp only [Option.some.injEq,Prod.mk.injEq] at hc
    obtain ⟨rfl,rfl⟩:=hc
    refine ⟨F,fun blk hb=>(f1 blk hb).1,?_,fun blk k hg => ?_,fun _ _ hr=>hr,fun _ hr=>hr.elim⟩
    ·cases f2 with
     | fv hf=>cases hf
     | row ho=>exact ho
    ·rcases (f1 blk hg).2 with h | h
     ·exact .inl h
     ·exact .inr (h k)
   ·cases hc
  ·cases hc
 ·-- a row within a row
  rename_i r i0 j0 sz n nl
  split at hc
  ·rename_i szr xs dt hl
   split at hc
   ·rename_i sz' ys hs
    split at hc
    ·rename_i hc2
     obtain ⟨rfl,rfl⟩:=hc2
     simp only [Option.some.injEq,Prod.mk.injEq] at hc
     obtain ⟨rfl,rfl⟩:=hc
     obtain ⟨-,f1,f2,g,c,f3,-⟩:=sub_row m hv hl hs rfl
     have hfree:∀ b,Fr r b→Free X b:=by
      rcases m.root r _ hl with ⟨_,_,_,k3⟩ | ⟨k4,-⟩
      ·exact k3
      ·rw [k4] at f3;cases f3
     refine ⟨SubF w h ρ Fr r i0 j0,fun blk hb=>⟨r,_,by simp,hl,(f2 blk hb).1⟩,f1,fun blk k hg=>(f2 blk hg).2.imp id fun h=>h k,fun blk hb hr=>hr.2 hb,fun blk hr=>⟨⟨r,_,by simp,hl,hr.1⟩,hfree blk hr.1⟩⟩
    ·cases hc
   ·cases hc
  ·cases hc
 ·-- a struct
  rename_i cs
  split at hc
  ·rename_i ds rs0 hcs
   simp only [Option.some.injEq,Prod.mk.injEq] at hc
   obtain ⟨rfl,rfl⟩:=hc
   obtain ⟨vs,rfl,v1,v2⟩:=hv.agg_inv
   obtain ⟨c1,c2⟩:=cellsW_sound m (f:=fun k=>vs.getD k Go.undef) hcs hn (fun k a hk=>by
    have hlt:=lt_len hk
    rw [←v1] at hlt
    have:vs.getD k Go.undef=vs[k]:=by simp [hlt]
    rw [this]
    exact .up (.up (v2 k a _ hk (Array.getElem?_eq_getElem hlt))))
   refine ⟨fun b=>Own h Fr rs0 b∧Free X b,fun blk hb=>hb.1,⟨vs,rfl,by rw [v1,c1],c2⟩,fun blk k hg => ?_,fun _ _ hr=>hr,fun _ hr=>hr.elim⟩
   rcases hg.2.2 with h | h
   ·exact .inl h
   ·exact .inr (h k)
  ·cases hc
 ·-- a variable
  rename_i r j
  split at hc
  ·rename_i cs hl
   split at hc
   ·rename_i hle
    split at hc
    ·rename_i ds rs0 hcs
     simp only [Option.some.injEq,Prod.mk.injEq] at hc
     obtain ⟨rfl,rfl⟩:=hc
     obtain ⟨hr0,hn0⟩:=List.nodup_cons.1 hn
     obtain ⟨g,o,e1,rfl⟩:=box_root hv hl
     obtain ⟨g',vs,ty,fr,k1,k2,k3,k4,k5,k6,k7,k8⟩:=m.root r _ hl
     rw [e1] at k1 k4 k7 k8
     injection k1 with k1
     subst k1
     simp only at k4 k7 k8
     have hget:∀ (k:Nat) (a:AV),((cs.drop j).take n)[k]? = some a→cs[j + k]? = some a∧k < n:=fun k a hk=>by
      rw [List.getElem?_take] at hk
      split at hk
      ·exact ⟨by simpa using hk,by assumption⟩
      ·cases hk
     obtain ⟨c1,c2⟩:=cellsW_sound m (f:=fun k=>vs.getD (o + j + k) Go.undef) hcs hn0 (fun k a hk=>by
      obtain ⟨u,q1,q2⟩:=k8 _ a (hget k a hk).1
      rw [←Nat.add_assoc] at q1
      have:vs.getD (o + j + k) Go.undef=u:=by simp [q1]
      rw [this]
      exact .up q2)
     have hdl:ds.length=n:=by rw [c1];simp;omega
     have hgne:∀ b,Own h Fr rs0 b→b≠g:=fun b hb e=>by
      obtain ⟨q,y,q1,q2,q3⟩:=hb
      exact hr0 (m.disj r _ q y g hl q2 k5 (e ▸ q3) ▸ q1)
     refine ⟨fun b=>b=g∨(Own h Fr rs0 b∧Free X b),?_,⟨g,o + j,rfl,vs,ty,fr,k2,k3,by omega, .inl rfl,c2.mono (fun _ h=>h) fun b hb=>⟨.inr hb,hgne b hb.1⟩⟩,?_,fun _ _ hr=>hr,fun _ hr=>hr.elim⟩
     ·rintro blk (rfl | ⟨hb,-⟩)
      ·exact ⟨r,_,by simp,hl,k5⟩
      ·exact Own.of_append_right (rs := [r]) hb
     ·rintro blk k ⟨g2,o2,e2,hg⟩
      injection e2 with e2
      injection e2 with e2
      injection e2 with e2 e3 _
      subst e2 e3
      rcases hg with ⟨hb1,hb2⟩ | ⟨rfl,hb2,hb3⟩
      ·rcases hb1 with h | ⟨-,h⟩
       ·exact absurd h hb2
       ·rcases h with h | h
        ·exact .inl h
        ·exact .inr (h k)
      ·have:=k7 (k - o) (by omega)
       rw [show o + (k - o)=k by omega] at this
       exact this
    ·cases hc
   ·cases hc
  ·cases hc
 ·cases hc
theorem passAll_sound (m:Mem X h ρ Fr w):∀ {as bs:List AV} {ms:List (Bool × Nat)} {rs ws:List Rid} {vs:List Value},passAll h ms as=some (bs,rs,ws)→ws.Nodup→vs.length=as.length→
  (∀ (k:Nat) (a:AV) (v:Value),as[k]? = some a→vs[k]? = some v→VR w X.S h ρ a v)→
  bs.length=as.length∧∃ F:Nat→Nat→Prop,(∀ k b,F k b→Own h Fr ws b)∧(∀ k k' b,F k b→F k' b→k=k')∧
   (∀ (k:Nat) (b:AV) (v:Value),bs[k]? = some b→vs[k]? = some v→ArgR w (Also X h Fr rs) (F k) b v∧∀ blk j,Grant (F k) b v blk j→X.w0.heap.size≤blk∨X.Chg blk j)∧
   (∀ (k b:Nat),F k b→∀ (j:Nat) (a:AV) (n:Nat),as[j]? = some a→ms[j]? = some (true,n)→¬ Rest w h ρ Fr a b)∧∀ (j:Nat) (a:AV) (n:Nat),as[j]? = some a→ms[j]? = some (true,n)→∀ b,Rest w h ρ Fr a b→Own h Fr ws b∧Free X b
 | [],bs,ms,rs,ws,vs,hp,_,_,_=>by
  unfold passAll at hp
  simp only [Option.some.injEq,Prod.mk.injEq] at hp
  obtain ⟨rfl,rfl,rfl⟩:=hp
  exact ⟨rfl,fun _ _=>False,fun _ _ hb=>hb.elim,fun _ _ _ hb=>hb.elim,by simp,by simp,by simp⟩
 | a :: as,bs,ms,rs,ws,vs,hp,hn,hl,hv=>by
  cases vs with
  | nil=>simp at hl
  | cons v vs=>
   have hread:∀ (n:Nat) (ms':List (Bool × Nat)) (b:AV) (r:List Rid) (bs':List AV) (rs':List Rid),passR h n a=some (b,r)→passAll h ms' as=some (bs',rs',ws)→(∀ k,ms'[k]? = ms[k + 1]?)→(∀ n,ms[0]?≠some (true,n))→bs=b :: bs'→rs=r++rs'→
     bs.length=(a :: as).length∧∃ F:Nat→Nat→Prop,(∀ k b,F k b→Own h Fr ws b)∧(∀ k k' b,F k b→F k' b→k=k')∧
     (∀ (k:Nat) (b:AV) (u:Value),bs[k]? = some b→(v :: vs)[k]? = some u→ArgR w (Also X h Fr rs) (F k) b u∧∀ blk j,Grant (F k) b u blk j→X.w0.heap.size≤blk∨X.Chg blk j)∧
     (∀ (k b:Nat),F k b→∀ (j:Nat) (a':AV) (n:Nat),(a :: as)[j]? = some a'→ms[j]? = some (true,n)→¬ Rest w h ρ Fr a' b)∧∀ (j:Nat) (a':AV) (n:Nat),(a :: as)[j]? = some a'→ms[j]? = some (true,n)→∀ b,Rest w h ρ Fr a' b→Own h Fr ws b∧Free X b:=by
    intro n ms' b r bs' rs' h1 h2 hms hms0 e1 e2
    subst e1 e2
    ·obtain ⟨g0,F,g1,g2,g3,g4,g5⟩:=passAll_sound m h2 hn (by simpa using hl) (fun k a v h3 h4=>hv (k + 1) a v (by simpa using h3) (by simpa using h4))
     have hf:=(passR_sound m (hv 0 a v rfl rfl) h1).mono (S':=Also X h Fr (r++rs')) fun b hb=>hb.mono (by simp +contextual)
     refine ⟨by simp [g0],fun k b=>match k with | 0=>False | k + 1=>F k b,?_,?_,?_,?_,?_⟩
     ·intro k b hb
      cases k with
      | zero=>exact hb.elim
      | succ k=>exact g1 k b hb
     ·intro k k' b hb hb'
      cases k with
      | zero=>exact hb.elim
      | succ k=>cases k' with
       | zero=>exact hb'.elim
       | succ k'=>rw [g2 k k' b hb hb']
     ·intro k c u h3 h4
      cases k with
      | zero=>
       simp at h3 h4
       subst h3 h4
       exact ⟨hf.argR.1,fun blk j hg=>(hf.argR.2 blk j hg).elim⟩
      | succ k=>
       obtain ⟨q1,q2⟩:=g3 k c u (by simpa using h3) (by simpa using h4)
       exact ⟨q1.mono fun b hb=>hb.mono (by simp +contextual),q2⟩
     ·intro k b hb j a' n' h3 h4
      cases k with
      | zero=>exact hb.elim
      | succ k=>
       cases j with
       | zero=>exact absurd h4 (hms0 n')
       | succ j=>exact g4 k b hb j a' n' (by simpa using h3) (by rw [hms];exact h4)
     ·intro j a' n' h3 h4
      cases j with
      | zero=>exact absurd h4 (hms0 n')
      | succ j=>exact g5 j a' n' (by simpa using h3) (by rw [hms];exact h4)
   match ms,hp with
   | [],hp=>
    simp only [passAll] at hp
    split at hp
    ·rename_i b r bs' rs' ws' h1 h2
     simp only [Option.some.injEq,Prod.mk.injEq] at hp
     obtain ⟨rfl,rfl,rfl⟩:=hp
     exact hread 0 [] _ _ _ _ h1 h2 (by simp) (by simp) rfl rfl
    ·cases hp
   |(false,n) :: ms',hp=>
    simp only [passAll] at hp
    split at hp
    ·rename_i b r bs' rs' ws' h1 h2
     simp only [Option.some.injEq,Prod.mk.injEq] at hp
     obtain ⟨rfl,rfl,rfl⟩:=hp
     exact hread n ms' _ _ _ _ h1 h2 (by simp) (by simp) rfl rfl
    ·cases hp
   |(true,n) :: ms',hp=>
    simp only [passAll] at hp
    split at hp
    ·rename_i b r bs' rs' ws' h1 h2
     simp only [Option.some.injEq,Prod.mk.injEq] at hp
     obtain ⟨rfl,rfl,rfl⟩:=hp
     obtain ⟨hn1,hn2,hn3⟩:=List.nodup_append.1 hn
     obtain ⟨g0,F,g1,g2,g3,g4,g5⟩:=passAll_sound m h2 hn2 (by simpa using hl) (fun k a v h3 h4=>hv (k + 1) a v (by simpa using h3) (by simpa using h4))
     obtain ⟨F0,f1,f2,f3,f4,f5⟩:=passW_sound m (hv 0 a v rfl rfl) h1 hn1
     have hdj:∀ b,Own h Fr r b→Own h Fr ws' b→False:=fun b h3 h4=>Own.disj m (fun r hr hr'=>hn3 r hr r hr' rfl) h3 h4
     refine ⟨by simp [g0],fun k b=>match k with | 0=>F0 b | k + 1=>F k b,?_,?_,?_,?_,?_⟩
     ·intro k b hb
      cases k with
      | zero=>exact (f1 b hb).of_append_left
      | succ k=>exact (g1 k b hb).of_append_right
     ·intro k k' b hb hb'
      cases k with
      | zero=>cases k' with
       | zero=>rfl
       | succ k'=>exact (hdj b (f1 b hb) (g1 k' b hb')).elim
      | succ k=>cases k' with
       | zero=>exact (hdj b (f1 b hb') (g1 k b hb)).elim
       | succ k'=>rw [g2 k k' b hb hb']
     ·intro k c u h3 h4
      cases k with
      | zero=>
       simp at h3 h4
       subst h3 h4
       exact ⟨f2.mono fun b hb => .inl hb,f3⟩
      | succ k=>exact g3 k c u (by simpa using h3) (by simpa using h4)
     ·intro k b hb j a' n' h3 h4 hr
      cases k with
      | zero=>
       cases j with
       | zero=>
        simp at h3
        subst h3
        exact f4 b hb hr
       | succ j=>exact hdj b (f1 b hb) (g5 j a' n' (by simpa using h3) (by simpa using h4) b hr).1
      | succ k=>
       cases j with
       | zero=>
        simp at h3
        subst h3
        exact hdj b (f5 b hr).1 (g1 k b hb)
       | succ j=>exact g4 k b hb j a' n' (by simpa using h3) (by simpa using h4) hr
     ·intro j a' n' h3 h4 b hr
      cases j with
      | zero=>
       simp at h3
       subst h3
       exact ⟨(f5 b hr).1.of_append_left,(f5 b hr).2⟩
      | succ j=>
       obtain ⟨q1,q2⟩:=g5 j a' n' (by simpa using h3) (by simpa using h4) b hr
       exact ⟨q1.of_append_right,q2⟩
    ·cases hp
end

structure Ent where
 r:Rid
 x:Root
 bc:Option Nat × Nat
 F:Nat→Prop
def RowEnt (w:World) (e:Ent):Prop:=
 ∃ sz xs dt,e.x = .row sz xs dt∧((xs = []∧e.bc=(none,0))∨∃ g,e.bc.1=some g∧OC w e.F (.row sz xs) (.slice (some ⟨g,0,none⟩) xs.length e.bc.2))
def CellC (w:World) (S:Nat→Prop) (ents:List Ent) (a:AV) (u:Value):Prop:=
 FV w S a u∨∃ e ∈ ents,∃ sz xs,e.x = .row sz xs []∧a = .ref e.r none sz 0 xs.length none∧u = .slice (addrOf e.bc.1) xs.length e.bc.2∧RowEnt w e
def NewBox (w:World) (S:Nat→Prop) (ents:List Ent) (e:Ent):Prop:=
 ∃ cs g o,e.x = .box cs∧e.bc=(some g,o)∧(∀ b,e.F b↔b=g)∧∃ (vs:Array Value) (ty:TypeId) (fr:Nat × Nat),w.heap[g]? = some (.cells vs ty fr)∧Thaw vs fr∧o + cs.length≤vs.size∧
  ∀ (k:Nat) (a:AV),cs[k]? = some a→∃ u,vs[o + k]? = some u∧CellC w S ents a u
structure Made (w:World) (S F:Nat→Prop) (i n n':Nat) (ents:List Ent) (wr:Wr):Prop where
 le:n≤n'
 wr:wr=ents.map fun e=>(e.r,some e.x)
 num:∀ e ∈ ents,∃ m,n≤m∧m < n'∧e.r=rt i m
 nodup:(ents.map (·.r)).Nodup
 row:∀ e ∈ ents,((RowEnt w e∧∃ sz xs,e.x = .row sz xs [])∨NewBox w S ents e)∧∀ b,e.F b→F b
 disj:∀ e ∈ ents,∀ e' ∈ ents,∀ b,e.F b→e'.F b→e.r=e'.r
section
variable {w:World} {S:Nat→Prop}
theorem CellC.mono {ents ents':List Ent} {a:AV} {u:Value} (h:CellC w S ents a u) (hs:∀ e ∈ ents,e ∈ ents'):CellC w S ents' a u:=by
 rcases h with h | ⟨e,h1,h2⟩
 ·exact .inl h
 ·exact .inr ⟨e,hs e h1,h2⟩
theorem NewBox.mono {ents ents':List Ent} {e:Ent} (h:NewBox w S ents e) (hs:∀ e ∈ ents,e ∈ ents'):NewBox w S ents' e:=by
 obtain ⟨cs,g,o,h1,h2,h3,vs,ty,fr,h4,h5,h6,h7⟩:=h
 exact ⟨cs,g,o,h1,h2,h3,vs,ty,fr,h4,h5,h6,fun k a hk=>by
  obtain ⟨u,q1,q2⟩:=h7 k a hk
  exact ⟨u,q1,q2.mono hs⟩⟩
theorem rt_inj' {i k k':Nat} (h:rt i k=rt i k'):k=k':=by
 have h':(2 * (4096 * i + k) + 1:Nat)=2 * (4096 * i + k') + 1:=h
 omega
theorem Made.nil {F:Nat→Prop} {i n:Nat}:Made w S F i n n [] []:=⟨Nat.le_refl _,rfl,by simp,by simp,by simp,by simp⟩
theorem Made.mono {F F':Nat→Prop} {i n n':Nat} {ents:List Ent} {wr:Wr} (h:Made w S F i n n' ents wr) (hF:∀ b,F b→F' b):Made w S F' i n n' ents wr:=
 ⟨h.le,h.wr,h.num,h.nodup,fun e he=>⟨(h.row e he).1,fun b hb=>hF b ((h.row e he).2 b hb)⟩,h.disj⟩
theorem Made.append {F G:Nat→Prop} {i n n' n'':Nat} {ents ents':List Ent} {wr wr':Wr} (h:Made w S F i n n' ents wr) (h':Made w S G i n' n'' ents' wr') (hFG:∀ b,F b→G b→False) :
  Made w S (fun b=>F b∨G b) i n n'' (ents++ents') (wr++wr') where
 le:=Nat.le_trans h.le h'.le
 wr:=by rw [h.wr,h'.wr,List.map_append]
 num:=by
  intro e he
  rcases List.mem_append.1 he with he | he
  ·obtain ⟨m,h1,h2,h3⟩:=h.num e he
   exact ⟨m,h1,by have:=h'.le;omega,h3⟩
  ·obtain ⟨m,h1,h2,h3⟩:=h'.num e he
   exact ⟨m,by have:=h.le;omega,h2,h3⟩
 nodup:=by
  rw [List.map_append,List.nodup_append]
  refine ⟨h.nodup,h'.nodup,fun a ha b hb e => ?_⟩
  obtain ⟨e1,h1,rfl⟩:=List.mem_map.1 ha
  obtain ⟨e2,h2,rfl⟩:=List.mem_map.1 hb
  obtain ⟨m1,a1,a2,a3⟩:=h.num e1 h1
  obtain ⟨m2,b1,b2,b3⟩:=h'.num e2 h2
  rw [a3,b3] at e
  have:=rt_inj' e
  omega
 row:=by
  intro e he
  rcases List.mem_append.1 he with he | he
  ·exact ⟨(h.row e he).1.imp id fun q=>q.mono fun e he=>List.mem_append.2 (.inl he),fun b hb => .inl ((h.row e he).2 b hb)⟩
  ·exact ⟨(h'.row e he).1.imp id fun q=>q.mono fun e he=>List.mem_append.2 (.inr he),fun b hb => .inr ((h'.row e he).2 b hb)⟩
 disj:=by
  intro e he e' he' b hb hb'
  rcases List.mem_append.1 he with he | he<;>rcases List.mem_append.1 he' with he' | he'
  ·exact h.disj e he e' he' b hb hb'
  ·exact (hFG b ((h.row e he).2 b hb) ((h'.row e' he').2 b hb')).elim
  ·exact (hFG b ((h.row e' he').2 b hb') ((h'.row e he).2 b hb)).elim
  ·exact h'.disj e he e' he' b hb hb'
theorem Made.one {F:Nat→Prop} {i n sz:Nat} {xs:List (List AV)} {v:Value} (ho:OC w F (.row sz xs) v) :
  ∃ ents,Made w S F i n (n + 1) ents [(rt i n,some (.row sz xs []))]∧CellC w S ents (.ref (rt i n) none sz 0 xs.length none) v:=by
 obtain ⟨g,c,h1,h2,h3⟩:=ho.slice_inv
 have hrow:RowEnt w ⟨rt i n, .row sz xs [],(g,c),F⟩:=by
  refine ⟨sz,xs,[],rfl,?_⟩
  cases g with
  | none=>
   have:=h3 rfl
   subst this
   left
   refine ⟨?_,rfl⟩
   subst h1
   rcases ho.row_inv with ⟨h4,-⟩ | ⟨g',cap,cs,ty,fr,Fs,e1,-⟩
   ·exact h4
   ·injection e1 with e1
    cases e1
  | some g=>
   right
   subst h1
   exact ⟨g,rfl,ho⟩
 refine ⟨[⟨rt i n, .row sz xs [],(g,c),F⟩],⟨by omega,rfl,fun e he => ?_,by simp,fun e he => ?_,fun e he e' he' b _ _ => ?_⟩, .inr ⟨_,by simp,sz,xs,rfl,rfl,h1,hrow⟩⟩
 ·simp at he;subst he;exact ⟨n,by omega,by omega,rfl⟩
 ·simp at he;subst he;exact ⟨.inl ⟨hrow,sz,xs,rfl⟩,fun b hb=>hb⟩
 ·simp at he he';rw [he,he']
theorem matCells_sound {i:Nat}:∀ {cs:List AV} {n:Nat} {f:Nat→Value} {Fs:Nat→Nat→Prop},(∀ k k' b,Fs k b→Fs k' b→k=k')→(∀ (k:Nat) (a:AV),cs[k]? = some a→CellR w S (Fs k) a (f k))→
  ∃ ents,Made w S (fun b=>∃ k,Fs k b) i n (matCells i n cs).2.2 ents (matCells i n cs).2.1∧(matCells i n cs).1.length=cs.length∧∀ (k:Nat) (a:AV),(matCells i n cs).1[k]? = some a→CellC w S ents a (f k)
 | [],n,f,Fs,_,_=>⟨[],Made.nil,rfl,by simp [matCells]⟩
 | a :: cs,n,f,Fs,hd,hc=>by
  have hd':∀ k k' b,Fs (k + 1) b→Fs (k' + 1) b→k=k':=fun k k' b h1 h2=>by have:=hd _ _ b h1 h2;omega
  have hc':∀ (k:Nat) (a:AV),cs[k]? = some a→CellR w S (Fs (k + 1)) a (f (k + 1)):=fun k a hk=>hc (k + 1) a (by simpa using hk)
  have h0:=hc 0 a rfl
  by_cases ha:∃ sz xs,a = .row sz xs
  ·obtain ⟨sz,xs,rfl⟩:=ha
   have ho:OC w (Fs 0) (.row sz xs) (f 0):=by
    cases h0 with
    | fv hf=>cases hf
    | row ho=>exact ho
   obtain ⟨ents,h1,h2,h3⟩:=matCells_sound (i:=i) (cs:=cs) (n:=n + 1) (f:=fun k=>f (k + 1)) (Fs:=fun k=>Fs (k + 1)) hd' hc'
   obtain ⟨e0,k1,k2⟩:=Made.one (S:=S) (i:=i) (n:=n) ho
   refine ⟨e0++ents,?_,by simp [matCells,h2],fun k b hk => ?_⟩
   ·have:=k1.append h1 (fun b hb ⟨k,hb'⟩=>by have:=hd _ _ b hb hb';omega)
    refine (Made.mono this (F':=fun b=>∃ k,Fs k b) ?_)
    rintro b (hb | ⟨k,hb⟩)
    ·exact ⟨0,hb⟩
    ·exact ⟨k + 1,hb⟩
   ·simp only [matCells] at hk
    cases k with
    | zero=>
     simp at hk
     subst hk
     exact k2.mono fun e he=>by simp [he]
    | succ k=>exact (h3 k b (by simpa using hk)).mono fun e he=>by simp [he]
  ·have hm:matCells i n (a :: cs)=(a :: (matCells i n cs).1,(matCells i n cs).2.1,(matCells i n cs).2.2):=by
    cases a<;>first | rfl | exact absurd ⟨_,_,rfl⟩ ha
   obtain ⟨ents,h1,h2,h3⟩:=matCells_sound (i:=i) (cs:=cs) (n:=n) (f:=fun k=>f (k + 1)) (Fs:=fun k=>Fs (k + 1)) hd' hc'
   rw [hm]
   refine ⟨ents,h1.mono (fun b ⟨k,hb⟩=>⟨k + 1,hb⟩),by simp [h2],fun k b hk => ?_⟩
   cases k with
   | zero=>
    simp at hk
    subst hk
    cases h0 with
    | fv hf=>exact .inl hf
    | row ho=>exact absurd ⟨_,_,rfl⟩ ha
   | succ k=>exact h3 k b (by simpa using hk)
def ResC (w:World) (S:Nat→Prop) (ents:List Ent) (a:AV) (v:Value):Prop:=
 CellC w S ents a v∨∃ (as:List AV) (vs:Array Value),a = .agg as∧v = .agg vs∧vs.size=as.length∧∀ (k:Nat) (x:AV),as[k]? = some x→CellC w S ents x (vs.getD k Go.undef)
theorem ResC.mono {ents ents':List Ent} {a:AV} {u:Value} (h:ResC w S ents a u) (hs:∀ e ∈ ents,e ∈ ents'):ResC w S ents' a u:=by
 rcases h with h | ⟨as,vs,h1,h2,h3,h4⟩
 ·exact .inl (h.mono hs)
 ·exact .inr ⟨as,vs,h1,h2,h3,fun k x hk=>(h4 k x hk).mono hs⟩
theorem mat1_sound {i n:Nat} {a:AV} {v:Value} {F:Nat→Prop} (hr:ResR1 w S F a v) :
  ∃ ents,Made w S F i n (mat1 i n a).2.2 ents (mat1 i n a).2.1∧ResC w S ents (mat1 i n a).1 v:=by
 unfold ResR1 at hr
 split at hr
 ·obtain ⟨ents,h1,h2⟩:=Made.one (S:=S) (i:=i) (n:=n) hr
  exact ⟨ents,h1, .inl h2⟩
 ·rename_i cs
  obtain ⟨vs,rfl,h1,Fs,h2,h3,h4⟩:=hr
  obtain ⟨ents,k1,k2,k3⟩:=matCells_sound (i:=i) (n:=n) h3 h4
  exact ⟨ents,k1.mono (fun b ⟨k,hb⟩=>h2 k b hb), .inr ⟨_,vs,rfl,rfl,by rw [h1,←k2],k3⟩⟩
 ·rename_i h1 h2
  have:mat1 i n a=(a,[],n):=by
   cases a<;>first | rfl | exact absurd rfl (h1 _ _) | exact absurd rfl (h2 _)
  rw [this]
  exact ⟨[],Made.nil.mono (F:=fun _=>False) (fun _ h=>h.elim), .inl (.inl hr)⟩
theorem matList_sound {i:Nat}:∀ {rs:List AV} {n:Nat} {f:Nat→Value} {Fs:Nat→Nat→Prop},(∀ k k' b,Fs k b→Fs k' b→k=k')→(∀ (k:Nat) (a:AV),rs[k]? = some a→ResR1 w S (Fs k) a (f k))→
  ∃ ents,Made w S (fun b=>∃ k,Fs k b) i n (matList i n rs).2.2 ents (matList i n rs).2.1∧(matList i n rs).1.length=rs.length∧∀ (k:Nat) (a:AV),(matList i n rs).1[k]? = some a→ResC w S ents a (f k)
 | [],n,f,Fs,_,_=>⟨[],Made.nil,rfl,by simp [matList]⟩
 | a :: rs,n,f,Fs,hd,hc=>by
  have hd':∀ k k' b,Fs (k + 1) b→Fs (k' + 1) b→k=k':=fun k k' b h1 h2=>by have:=hd _ _ b h1 h2;omega
  obtain ⟨e0,k1,k2⟩:=mat1_sound (i:=i) (n:=n) (hc 0 a rfl)
  obtain ⟨ents,h1,h2,h3⟩:=matList_sound (i:=i) (rs:=rs) (n:=(mat1 i n a).2.2) (f:=fun k=>f (k + 1)) (Fs:=fun k=>Fs (k + 1)) hd' (fun k a hk=>hc (k + 1) a (by simpa using hk))
  refine ⟨e0++ents,?_,by simp [matList,h2],fun k b hk => ?_⟩
  ·have:=k1.append h1 (fun b hb ⟨k,hb'⟩=>by have:=hd _ _ b hb hb';omega)
   refine (Made.mono this (F':=fun b=>∃ k,Fs k b) ?_)
   rintro b (hb | ⟨k,hb⟩)
   ·exact ⟨0,hb⟩
   ·exact ⟨k + 1,hb⟩
  ·simp only [matList] at hk
   cases k with
   | zero=>
    simp at hk
    subst hk
    exact k2.mono fun e he=>by simp [he]
   | succ k=>exact (h3 k b (by simpa using hk)).mono fun e he=>by simp [he]
def ResT (w:World) (S:Nat→Prop) (ents:List Ent) (a:AV) (v:Value):Prop:=
 (ResC w S ents a v∨(∃ e ∈ ents,∃ cs g o,e.x = .box cs∧e.bc=(some g,o)∧a = .ptr e.r none 0 0∧v = .pointer (some ⟨g,o,none⟩))∨
  ∃ e ∈ ents,∃ (sz sz' i j g:Nat) (xs ys:List (List AV)) (p:Path) (bc':Option Nat × Nat),e.x = .row sz xs []∧a = .ptr e.r p i j∧subRow sz xs [] p=some (sz',ys)∧placeAt w e.bc sz p bc'∧bc'.1=some g∧v = .pointer (some ⟨g,i * sz' + j,none⟩))∨∃ (as:List AV) (vs:Array Value),a = .tup as∧v = .tuple vs∧vs.size=as.length∧∀ (k:Nat) (x:AV),as[k]? = some x→ResC w S ents x (vs.getD k Go.undef)
theorem mat_sound {i n:Nat} {a:AV} {v:Value} {F:Nat→Prop} (hr:ResR w S F a v) (hpp:∀ k c p i j,a ≠ .pp k c p i j) :
  ∃ ents,Made w S F i n (mat i n a).2.2 ents (mat i n a).2.1∧ResT w S ents (mat i n a).1 v:=by
 unfold ResR at hr
 split at hr
 ·rename_i rs
  obtain ⟨vs,rfl,h1,Fs,h2,h3,h4⟩:=hr
  obtain ⟨ents,k1,k2,k3⟩:=matList_sound (i:=i) (n:=n) h3 h4
  exact ⟨ents,k1.mono (fun b ⟨k,hb⟩=>h2 k b hb), .inr ⟨_,vs,rfl,rfl,by rw [h1,←k2],k3⟩⟩
 ·rename_i cs
  obtain ⟨g,o,rfl,vs,ty,fr,h1,h2,h3,h4,Fs,h5,h6,h7⟩:=hr
  obtain ⟨ents,k1,k2,k3⟩:=matCells_sound (i:=i) (n:=n) h6 h7
  have hbox:NewBox w S ents ⟨rt i (matCells i n cs).2.2, .box (matCells i n cs).1,(some g,o),fun b=>b=g⟩:=by
   refine ⟨_,g,o,rfl,rfl,fun b=>Iff.rfl,vs,ty,fr,h1,h2,by rw [k2];exact h3,fun k a hk => ?_⟩
   have hlt:=lt_len hk
   rw [k2] at hlt
   have hlt2:o + k < vs.size:=by omega
   have h8:=k3 k a hk
   have h9:vs.getD (o + k) Go.undef=vs[o + k]:=by simp [hlt2]
   rw [h9] at h8
   exact ⟨vs[o + k],Array.getElem?_eq_getElem hlt2,h8⟩
  have hnum:∀ e ∈ ents,e.r≠rt i (matCells i n cs).2.2:=fun e he e1=>by
   obtain ⟨m,m1,m2,m3⟩:=k1.num e he
   rw [m3] at e1
   have:=rt_inj' e1
   omega
  have hne:∀ e ∈ ents,∀ b,e.F b→b≠g:=fun e he b hb=>by
   obtain ⟨k,hk⟩:=(k1.row e he).2 b hb
   exact (h5 k b hk).2
  refine ⟨ents ++ [⟨rt i (matCells i n cs).2.2, .box (matCells i n cs).1,(some g,o),fun b=>b=g⟩],⟨Nat.le_succ_of_le k1.le,?_,?_,?_,?_,?_⟩, .inl (.inr (.inl ⟨_,List.mem_append.2 (.inr (List.mem_singleton.2 rfl)),_,g,o,rfl,rfl,rfl,rfl⟩))⟩
  ·show (matCells i n cs).2.1++_=_
   rw [k1.wr,List.map_append]
   rfl
  ·intro e he
   rcases List.mem_append.1 he with he | he
   ·obtain ⟨m,m1,m2,m3⟩:=k1.num e he
    exact ⟨m,m1,Nat.lt_succ_of_lt m2,m3⟩
   ·rw [List.mem_singleton] at he
    subst he
    exact ⟨_,k1.le,Nat.lt_succ_self _,rfl⟩
  ·rw [List.map_append,List.nodup_append]
   refine ⟨k1.nodup,by simp,fun a ha b hb e => ?_⟩
   obtain ⟨e1,h8,rfl⟩:=List.mem_map.1 ha
   simp at hb
   exact hnum e1 h8 (e.trans hb)
  ·intro e he
   rcases List.mem_append.1 he with he | he
   ·refine ⟨(k1.row e he).1.imp id fun q=>q.mono fun e he=>List.mem_append.2 (.inl he),fun b hb => ?_⟩
    obtain ⟨k,hk⟩:=(k1.row e he).2 b hb
    exact (h5 k b hk).1
   ·rw [List.mem_singleton] at he
    subst he
    refine ⟨.inr (hbox.mono fun e he=>List.mem_append.2 (.inl he)),fun b hb => ?_⟩
    simp only at hb
    subst hb
    exact h4
  ·intro e he e' he' b hb hb'
   rcases List.mem_append.1 he with he | he<;>rcases List.mem_append.1 he' with he' | he'
   ·exact k1.disj e he e' he' b hb hb'
   ·rw [List.mem_singleton] at he'
    subst he'
    exact absurd hb' (hne e he b hb)
   ·rw [List.mem_singleton] at he
    subst he
    exact absurd hb (hne e' he' b hb')
   ·rw [List.mem_singleton] at he he'
    rw [he,he']
 ·exact absurd rfl (hpp _ _ _ _ _)
 ·rename_i h1 h2 h3
  have:mat i n a=mat1 i n a:=by
   cases a<;>first | rfl | exact absurd rfl (h1 _) | exact absurd rfl (h2 _)
  rw [this]
  obtain ⟨ents,k1,k2⟩:=mat1_sound (i:=i) (n:=n) hr
  exact ⟨ents,k1, .inl (.inl k2)⟩
end

def NewEnt (w':World) (S' Full:Nat→Prop) (ents:List Ent) (i n n':Nat) (e:Ent):Prop:=(∃ m,n≤m∧m < n'∧e.r=rt i m)∧((RowEnt w' e∧∃ sz xs,e.x = .row sz xs [])∨(NewBox w' S' ents e∧∀ b,e.F b→Full b))
def RowBack (h:Heap) (ρ:Rho) (w':World) (e:Ent):Prop:=
 RowEnt w' e∧∃ sz xs0 dt0 ys,look e.r h=some (.row sz xs0 dt0)∧e.x = .row sz ys (List.range sz)∧ys.length=xs0.length∧e.bc=ρ e.r
def BoxBack (X:Fix) (h:Heap) (ρ:Rho) (w w':World) (S':Nat→Prop) (ents:List Ent) (e:Ent):Prop:=
 ∃ cs cs' g o,look e.r h=some (.box cs)∧e.x = .box cs'∧ρ e.r=(some g,o)∧e.bc=(some g,o)∧(∀ b,e.F b↔b=g)∧cs'.length=cs.length∧
  ∃ (vs':Array Value) (ty:TypeId) (fr:Nat × Nat),w'.heap[g]? = some (.cells vs' ty fr)∧Thaw vs' fr∧o + cs.length≤vs'.size∧
   ∀ (k:Nat) (a:AV),cs'[k]? = some a→∃ u,vs'[o + k]? = some u∧(CellC w' S' ents a u∨(cs[k]? = some a∧VB w X.S h ρ a u))
def SubBack (h:Heap) (ρ:Rho) (w w':World) (e:Ent):Prop:=
 RowEnt w' e∧∃ (szr:Nat) (xs:List (List AV)) (dt:List Nat) (i j sz:Nat) (ys ys':List (List AV)),look e.r h=some (.row szr xs dt)∧subRow szr xs dt (some (i,j))=some (sz,ys)∧ys'.length=ys.length∧e.x = .row szr (setSub xs (some (i,j)) ys') dt∧
  e.bc=ρ e.r∧∀ g,(ρ e.r).1=some g→w'.heap[g]? = w.heap[g]?
structure Back (X:Fix) (h:Heap) (ρ:Rho) (w w':World) (S':Nat→Prop) (i n n':Nat) (ws:List Rid) (G Full:Nat→Prop) (ents:List Ent) (wr:Wr):Prop where
 le:n≤n'
 sub:∀ p ∈ wr,(p.2=none∧p.1 ∈ ws)∨∃ e ∈ ents,p=(e.r,some e.x)
 sup:∀ e ∈ ents,(e.r,some e.x) ∈ wr
 keys:(wr.map (·.1)).Nodup
 cover:∀ r ∈ ws,r ∈ wr.map (·.1)
 kind:∀ e ∈ ents,NewEnt w' S' Full ents i n n' e∨(e.r ∈ ws∧(RowBack h ρ w' e∨BoxBack X h ρ w w' S' ents e∨SubBack h ρ w w' e))
 foot:∀ e ∈ ents,∀ b,e.F b→G b
 disj:∀ e ∈ ents,∀ e' ∈ ents,∀ b,e.F b→e'.F b→e.r=e'.r
 enodup:(ents.map (·.r)).Nodup
 full:∀ e ∈ ents,(∃ sz xs dt,e.x = .row sz xs dt)→∀ b,e.F b→Full b
section
variable {X:Fix} {w w':World} {h:Heap} {ρ:Rho} {Fr:Rid→Nat→Prop} {S' Full:Nat→Prop}
theorem BoxBack.mono {ents ents':List Ent} {e:Ent} (hb:BoxBack X h ρ w w' S' ents e) (hs:∀ e ∈ ents,e ∈ ents'):BoxBack X h ρ w w' S' ents' e:=by
 obtain ⟨cs,cs',g,o,h1,h2,h3,h4,h5,h6,vs',ty,fr,h7,h8,h9,h10⟩:=hb
 exact ⟨cs,cs',g,o,h1,h2,h3,h4,h5,h6,vs',ty,fr,h7,h8,h9,fun k a hk=>by
  obtain ⟨u,q1,q2⟩:=h10 k a hk
  exact ⟨u,q1,q2.imp (fun q=>q.mono hs) id⟩⟩
theorem Back.nil {i n:Nat}:Back X h ρ w w' S' i n n [] (fun _=>False) Full [] []:=⟨Nat.le_refl _,by simp,by simp,by simp,by simp,by simp,by simp,by simp,by simp,by simp⟩
theorem Back.key {i n n':Nat} {ws:List Rid} {G:Nat→Prop} {ents:List Ent} {wr:Wr} (hb:Back X h ρ w w' S' i n n' ws G Full ents wr) {r:Rid} (hr:r ∈ wr.map (·.1)):r ∈ ws∨∃ m,n≤m∧m < n'∧r=rt i m:=by
 obtain ⟨p,hp,rfl⟩:=List.mem_map.1 hr
 rcases hb.sub p hp with ⟨-,h1⟩ | ⟨e,he,rfl⟩
 ·exact .inl h1
 ·rcases hb.kind e he with h1 | ⟨h1,-⟩
  ·exact .inr h1.1
  ·exact .inl h1
theorem Back.mono {i n n':Nat} {ws:List Rid} {G G':Nat→Prop} {ents:List Ent} {wr:Wr} (hb:Back X h ρ w w' S' i n n' ws G Full ents wr) (hG:∀ b,G b→G' b):Back X h ρ w w' S' i n n' ws G' Full ents wr:=
 { hb with foot:=fun e he b h=>hG b (hb.foot e he b h) }
theorem Back.append {i n n' n'':Nat} {ws ws':List Rid} {G G':Nat→Prop} {ents ents':List Ent} {wr wr':Wr} (hb:Back X h ρ w w' S' i n n' ws G Full ents wr) (hb':Back X h ρ w w' S' i n' n'' ws' G' Full ents' wr')
  (hws:(ws++ws').Nodup) (hfresh:∀ r ∈ ws++ws',∀ m,m < 4096→r≠rt i m) (hn:n''≤4096) (hG:∀ b,G b→G' b→False):Back X h ρ w w' S' i n n'' (ws++ws') (fun b=>G b∨G' b) Full (ents++ents') (wr++wr') where
 le:=Nat.le_trans hb.le hb'.le
 sub:=by
  intro p hp
  rcases List.mem_append.1 hp with hp | hp
  ·rcases hb.sub p hp with ⟨h1,h2⟩ | ⟨e,h1,h2⟩
   ·exact .inl ⟨h1,by simp [h2]⟩
   ·exact .inr ⟨e,by simp [h1],h2⟩
  ·rcases hb'.sub p hp with ⟨h1,h2⟩ | ⟨e,h1,h2⟩
   ·exact .inl ⟨h1,by simp [h2]⟩
   ·exact .inr ⟨e,by simp [h1],h2⟩
 sup:=by
  intro e he
  rcases List.mem_append.1 he with he | he
  ·exact List.mem_append.2 (.inl (hb.sup e he))
  ·exact List.mem_append.2 (.inr (hb'.sup e he))
 keys:=by
  rw [List.map_append,List.nodup_append]
  refine ⟨hb.keys,hb'.keys,fun a ha b hb2 e => ?_⟩
  subst e
  rcases hb.key ha with h1 | ⟨m,h1,h2,h3⟩<;>rcases hb'.key hb2 with h4 | ⟨m',h4,h5,h6⟩
  ·exact (List.nodup_append.1 hws).2.2 a h1 a h4 rfl
  ·exact hfresh a (by simp [h1]) m' (by omega) h6
  ·exact hfresh a (by simp [h4]) m (by have:=hb'.le;omega) h3
  ·rw [h3] at h6
   have:=rt_inj' h6
   omega
 cover:=by
  intro r hr
  rw [List.map_append,List.mem_append]
  rcases List.mem_append.1 hr with hr | hr
  ·exact .inl (hb.cover r hr)
  ·exact .inr (hb'.cover r hr)
 kind:=by
  intro e he
  rcases List.mem_append.1 he with he | he
  ·rcases hb.kind e he with ⟨⟨m,h1,h2,h3⟩,h4⟩ | ⟨h1,h2⟩
   ·exact .inl ⟨⟨m,h1,by have:=hb'.le;omega,h3⟩,h4.imp id fun q=>⟨q.1.mono fun e he=>by simp [he],q.2⟩⟩
   ·exact .inr ⟨by simp [h1],h2.imp id fun h3=>h3.imp (fun h4=>h4.mono fun e he=>by simp [he]) id⟩
  ·rcases hb'.kind e he with ⟨⟨m,h1,h2,h3⟩,h4⟩ | ⟨h1,h2⟩
   ·exact .inl ⟨⟨m,by have:=hb.le;omega,h2,h3⟩,h4.imp id fun q=>⟨q.1.mono fun e he=>by simp [he],q.2⟩⟩
   ·exact .inr ⟨by simp [h1],h2.imp id fun h3=>h3.imp (fun h4=>h4.mono fun e he=>by simp [he]) id⟩
 foot:=by
  intro e he b hb2
  rcases List.mem_append.1 he with he | he
  ·exact .inl (hb.foot e he b hb2)
  ·exact .inr (hb'.foot e he b hb2)
 disj:=by
  intro e he e' he' b h1 h2
  rcases List.mem_append.1 he with he | he<;>rcases List.mem_append.1 he' with he' | he'
  ·exact hb.disj e he e' he' b h1 h2
  ·exact (hG b (hb.foot e he b h1) (hb'.foot e' he' b h2)).elim
  ·exact (hG b (hb.foot e' he' b h2) (hb'.foot e he b h1)).elim
  ·exact hb'.disj e he e' he' b h1 h2
 enodup:=by
  rw [List.map_append,List.nodup_append]
  refine ⟨hb.enodup,hb'.enodup,fun a ha b hb2 e => ?_⟩
  subst e
  obtain ⟨e1,h1,rfl⟩:=List.mem_map.1 ha
  obtain ⟨e2,h2,h3⟩:=List.mem_map.1 hb2
  have ha':=hb.key (List.mem_map.2 ⟨_,hb.sup e1 h1,rfl⟩)
  have hb3:=hb'.key (List.mem_map.2 ⟨_,hb'.sup e2 h2,rfl⟩)
  simp only at ha' hb3
  rw [h3] at hb3
  rcases ha' with h1 | ⟨m,h1,h2,h3⟩<;>rcases hb3 with h4 | ⟨m',h4,h5,h6⟩
  ·exact (List.nodup_append.1 hws).2.2 _ h1 _ h4 rfl
  ·exact hfresh _ (by simp [h1]) m' (by omega) h6
  ·exact hfresh _ (by simp [h4]) m (by have:=hb'.le;omega) h3
  ·rw [h3] at h6
   have:=rt_inj' h6
   omega
 full:=by
  intro e he
  rcases List.mem_append.1 he with he | he
  ·exact hb.full e he
  ·exact hb'.full e he
theorem Made.back {G:Nat→Prop} {i n n':Nat} {ents:List Ent} {wr:Wr} (hm:Made w' S' G i n n' ents wr) (hfull:∀ b,G b→Full b):Back X h ρ w w' S' i n n' [] G Full ents wr where
 le:=hm.le
 sub:=by
  intro p hp
  rw [hm.wr] at hp
  obtain ⟨e,he,rfl⟩:=List.mem_map.1 hp
  exact .inr ⟨e,he,rfl⟩
 sup:=by
  intro e he
  rw [hm.wr]
  exact List.mem_map.2 ⟨e,he,rfl⟩
 keys:=by
  rw [hm.wr,List.map_map]
  exact hm.nodup
 cover:=by simp
 kind:=fun e he => .inl ⟨hm.num e he,(hm.row e he).1.imp id fun q=>⟨q,fun b hb=>hfull b ((hm.row e he).2 b hb)⟩⟩
 foot:=fun e he=>(hm.row e he).2
 disj:=hm.disj
 enodup:=hm.nodup
 full:=fun e he _ b hb=>hfull b ((hm.row e he).2 b hb)
theorem cellRoots_eq:∀ {as bs:List AV} {rs:List Rid},cellsW h as=some (bs,rs)→cellRoots as=rs
 | [],bs,rs,hc=>by
  simp only [cellsW,Option.some.injEq,Prod.mk.injEq] at hc
  obtain ⟨rfl,rfl⟩:=hc
  rfl
 | a :: as,bs,rs,hc=>by
  simp only [cellsW] at hc
  split at hc
  ·rename_i b r bs' rs' h1 h2
   simp only [Option.some.injEq,Prod.mk.injEq] at hc
   obtain ⟨rfl,rfl⟩:=hc
   have ih:=cellRoots_eq h2
   unfold cellW at h1
   split at h1
   ·split at h1
    ·split at h1
     ·simp only [Option.some.injEq,Prod.mk.injEq] at h1
      obtain ⟨rfl,rfl⟩:=h1
      simp [cellRoots,ih]
     ·cases h1
    ·cases h1
   all_goals first
    |(simp only [Option.some.injEq,Prod.mk.injEq] at h1
      obtain ⟨rfl,rfl⟩:=h1
      simp [cellRoots,ih])
    | cases h1
  ·cases hc
theorem backW_sound0 (m:Mem X h ρ Fr w) {a b o:AV} {v:Value} {i n n' size:Nat} {rs:List Rid} {wr:Wr} {G:Nat→Prop} (hv:VR w X.S h ρ a v) (hp:passW h size a=some (b,rs)) (hn:rs.Nodup) (hback:backW h i n size a o=some (wr,n'))
  (hfresh:∀ r ∈ rs,∀ m,m < 4096→r≠rt i m) (hn':n'≤4096)
  (hout:OutR w' S' G o v) (hbox:∀ r j cs g p,a = .ptr r none 0 j→look r h=some (.box cs)→ρ r=(some g,p)→∃ c c' ty fr,w.heap[g]? = some (.cells c ty fr)∧w'.heap[g]? = some (.cells c' ty fr)∧c'.size=c.size∧∀ q,¬ (p + j≤q∧q < p + j + size)→c'[q]? = c[q]?)
  (hfull:∀ b,G b→(∀ o,v ≠ .pointer (some ⟨b,o,none⟩))→Full b) (na1:∀ r q sz o m nl,a ≠ .ref r (some q) sz o m nl) (na2:∀ cs,a ≠ .agg cs) :
  ∃ ents,Back X h ρ w w' S' i n n' rs G Full ents wr:=by
 unfold passW at hp
 split at hp
 ·-- a row
  rename_i r sz m0 nl
  split at hp
  ·rename_i sz' xs dt hl
   split at hp
   ·rename_i hc
    obtain ⟨rfl,rfl⟩:=hc
    simp only [Option.some.injEq,Prod.mk.injEq] at hp
    obtain ⟨rfl,rfl⟩:=hp
    obtain ⟨-,rfl,-,-⟩:=whole_root m hv hl
    simp only [backW] at hback
    split at hback
    ·rename_i sz2 ys
     split at hback
     ·rename_i hlen
      obtain ⟨hlen,rfl⟩:=hlen
      simp only [Option.some.injEq,Prod.mk.injEq] at hback
      obtain ⟨rfl,rfl⟩:=hback
      have ho:OC w' G (.row sz2 ys) (.slice (addrOf (ρ r).1) xs.length (ρ r).2):=hout
      have hrow:RowEnt w' ⟨r, .row sz2 ys (List.range sz2),ρ r,G⟩:=by
       refine ⟨sz2,ys,_,rfl,?_⟩
       generalize ρ r=q at ho ⊢
       obtain ⟨g,cap⟩:=q
       cases g with
       | none=>
        left
        rcases ho.row_inv with ⟨h4,h5⟩ | ⟨g',cap',cs,ty,fr,Fs,e1,-⟩
        ·injection h5 with _ _ h6
         exact ⟨h4,by simp only at h6;rw [h6]⟩
        ·injection e1 with e1
         cases e1
       | some g=>
        right
        refine ⟨g,rfl,?_⟩
        rw [←hlen] at ho
        exact ho
      refine ⟨[⟨r, .row sz2 ys (List.range sz2),ρ r,G⟩],⟨Nat.le_refl _,by simp,by simp,by simp,by simp,fun e he => ?_,fun e he b hb => ?_,fun e he e' he' b _ _ => ?_,by simp,fun e he _ b hb => ?_⟩⟩
      ·simp at he
       subst he
       exact .inr ⟨by simp, .inl ⟨hrow,sz2,xs,dt,ys,hl,rfl,hlen,rfl⟩⟩
      ·simp at he
       subst he
       exact hb
      ·simp at he he'
       rw [he,he']
      ·simp at he
       subst he
       exact hfull b hb (by simp)
     ·cases hback
    ·simp only [Option.some.injEq,Prod.mk.injEq] at hback
     obtain ⟨rfl,rfl⟩:=hback
     exact ⟨[],⟨Nat.le_refl _,by simp,by simp,by simp,by simp,by simp,by simp,by simp,by simp,by simp⟩⟩
    ·cases hback
   ·cases hp
  ·cases hp
 ·exact absurd rfl (na1 _ _ _ _ _ _)
 ·exact absurd rfl (na2 _)
 ·-- a variable
  rename_i r j
  split at hp
  ·rename_i cs hl
   split at hp
   ·rename_i hle
    split at hp
    ·rename_i ds0 rs0 hcs
     simp only [Option.some.injEq,Prod.mk.injEq] at hp
     obtain ⟨rfl,rfl⟩:=hp
     obtain ⟨hr0,hn0⟩:=List.nodup_cons.1 hn
     obtain ⟨g,p,e1,rfl⟩:=box_root hv hl
     simp only [backW] at hback
     split at hback
     ·rename_i ds
      rw [hl] at hback
      simp only at hback
      split at hback
      ·rename_i hds
       simp only [Option.some.injEq,Prod.mk.injEq] at hback
       obtain ⟨hwr,hn2⟩:=hback
       rw [hds,cellRoots_eq hcs] at hwr
       obtain ⟨g1,o1,h1,vs',ty,fr,h2,h3,h4,h5,Fs,h6,h7,h8⟩:=hout
       injection h1 with h1
       injection h1 with h1
       injection h1 with h1 h1' _
       subst h1 h1'
       obtain ⟨ents0,k1,k2,k3⟩:=matCells_sound (i:=i) (n:=n) h7 h8
       obtain ⟨c,c',ty',fr',q1,q2,q3,q4⟩:=hbox r j cs g p rfl hl e1
       rw [h2] at q2
       injection q2 with q2
       injection q2 with q2 q2' q2''
       subst q2 q2' q2''
       obtain ⟨g',vs,ty2,fr2,m1,m2,m3,m4,m5,m6,m7,m8⟩:=m.root r _ hl
       rw [e1] at m1 m4 m7 m8
       injection m1 with m1
       subst m1
       rw [q1] at m2
       injection m2 with m2
       injection m2 with m2 m2' m2''
       subst m2 m2' m2''
       simp only at m4 m8
       obtain ⟨t1,t2⟩:=setCells_get (matCells i n ds).1 cs j (by rw [k2,hds];exact hle)
       rw [k2,hds] at t2
       have hbb:BoxBack X h ρ w w' S' (ents0 ++ [⟨r, .box (setCells cs j (matCells i n ds).1),(some g,p),fun b=>b=g⟩]) ⟨r, .box (setCells cs j (matCells i n ds).1),(some g,p),fun b=>b=g⟩:=by
        refine ⟨cs,_,g,p,hl,rfl,e1,rfl,fun b=>Iff.rfl,t1,vs',ty,fr,h2,h3,by rw [q3];exact m4,fun k x hk => ?_⟩
        rw [t2] at hk
        split at hk
        ·rename_i hr
         have:=k3 _ x hk
         have hlt:p + k < vs'.size:=by rw [q3];have:=m4;omega
         refine ⟨vs'[p + k],by simp [hlt], .inl ?_⟩
         have he:vs'.getD (p + j + (k - j)) Go.undef=vs'[p + k]:=by
          rw [show p + j + (k - j)=p + k by omega]
          simp [hlt]
         rw [he] at this
         exact this.mono fun e he=>by simp [he]
        ·rename_i hr
         obtain ⟨u,u1,u2⟩:=m8 k x hk
         exact ⟨u,by rw [q4 (p + k) (by omega)];exact u1, .inr ⟨hk,u2⟩⟩
       subst hwr hn2
       have hG:∀ e ∈ ents0,∀ b,e.F b→G b∧b≠g:=fun e he b hb=>by
        obtain ⟨k,hk⟩:=(k1.row e he).2 b hb
        exact h6 k b hk
       refine ⟨ents0 ++ [⟨r, .box (setCells cs j (matCells i n ds).1),(some g,p),fun b=>b=g⟩],⟨k1.le,?_,?_,?_,?_,?_,?_,?_,?_,?_⟩⟩
       rotate_left
       rotate_left
       rotate_left
       rotate_left
       ·intro e he
        rcases List.mem_append.1 he with he | he
        ·exact .inl ⟨k1.num e he,(k1.row e he).1.imp id fun q=>⟨q.mono fun e he=>List.mem_append.2 (.inl he),fun b hb=>hfull b (hG e he b hb).1 (fun o e=>by
          injection e with e
          injection e with e
          injection e with e _ _
          exact (hG _ he b hb).2 e.symm)⟩⟩
        ·simp at he
         subst he
         exact .inr ⟨by simp, .inr (.inl hbb)⟩
       ·intro e he b hb
        rcases List.mem_append.1 he with he | he
        ·exact (hG e he b hb).1
        ·simp at he
         subst he
         simp only at hb
         subst hb
         exact h5
       ·intro e he e' he' b hb hb'
        rcases List.mem_append.1 he with he | he<;>rcases List.mem_append.1 he' with he' | he'
        ·exact k1.disj e he e' he' b hb hb'
        ·simp at he'
         subst he'
         exact absurd hb' (hG e he b hb).2
        ·simp at he
         subst he
         exact absurd hb (hG e' he' b hb').2
        ·simp at he he'
         rw [he,he']
       ·rw [List.map_append,List.nodup_append]
        refine ⟨k1.nodup,by simp,fun a ha b hb e => ?_⟩
        subst e
        simp at hb
        subst hb
        obtain ⟨e1,h1,h2⟩:=List.mem_map.1 ha
        obtain ⟨m,a1,a2,a3⟩:=k1.num e1 h1
        have hn'':(matCells i n ds).2.2≤4096:=hn'
        exact hfresh a (by simp) m (by omega) (h2.symm.trans a3)
       ·intro e he hrow b hb
        rcases List.mem_append.1 he with he | he
        ·exact hfull b (hG e he b hb).1 (fun o e=>by
          injection e with e
          injection e with e
          injection e with e _ _
          exact (hG _ he b hb).2 e.symm)
        ·simp at he
         subst he
         obtain ⟨sz,xs,dt,hx⟩:=hrow
         cases hx
       ·intro q hq
        rcases List.mem_append.1 hq with hq | hq
        ·obtain ⟨r',hr',rfl⟩:=List.mem_map.1 hq
         exact .inl ⟨rfl,by simp [hr']⟩
        ·rcases List.mem_append.1 hq with hq | hq
         ·rw [k1.wr] at hq
          obtain ⟨e,he,rfl⟩:=List.mem_map.1 hq
          exact .inr ⟨e,by simp [he],rfl⟩
         ·simp at hq
          subst hq
          exact .inr ⟨_,List.mem_append.2 (.inr (List.mem_singleton.2 rfl)),rfl⟩
       ·intro e he
        rcases List.mem_append.1 he with he | he
        ·refine List.mem_append.2 (.inr (List.mem_append.2 (.inl ?_)))
         rw [k1.wr]
         exact List.mem_map.2 ⟨e,he,rfl⟩
        ·simp at he
         subst he
         simp
       ·simp only [List.map_append,List.map_cons,List.map_nil]
        have hn'':(matCells i n ds).2.2≤4096:=hn'
        have hnew:∀ q ∈ (matCells i n ds).2.1.map (·.1),∃ m,m < 4096∧q=rt i m:=fun q hq=>by
         rw [k1.wr,List.map_map] at hq
         obtain ⟨e,he,rfl⟩:=List.mem_map.1 hq
         obtain ⟨m,a1,a2,a3⟩:=k1.num e he
         exact ⟨m,by omega,a3⟩
        refine List.nodup_append.2 ⟨?_,List.nodup_append.2 ⟨?_,by simp,?_⟩,?_⟩
        ·have:(gone rs0).map (·.1)=rs0:=by simp [gone,Function.comp_def]
         rw [this]
         exact hn0
        ·rw [k1.wr,List.map_map]
         exact k1.nodup
        ·intro a ha b hb e
         simp at hb
         subst hb e
         obtain ⟨m,a1,a2⟩:=hnew _ ha
         exact hfresh a (by simp) m a1 a2
        ·intro a ha b hb e
         subst e
         have ha':a ∈ rs0:=mem_gone.1 ha
         rcases List.mem_append.1 hb with hb | hb
         ·obtain ⟨m,a1,a2⟩:=hnew _ hb
          exact hfresh a (by simp [ha']) m a1 a2
         ·simp at hb
          subst hb
          exact hr0 ha'
       ·intro q hq
        simp only [List.map_append,List.map_cons,List.map_nil,List.mem_append,mem_gone,List.mem_singleton]
        rcases List.mem_cons.1 hq with rfl | hq
        ·exact .inr (.inr rfl)
        ·exact .inl hq
      ·cases hback
     ·cases hback
    ·cases hp
   ·cases hp
  ·cases hp
 ·cases hp
theorem back_row (m:Mem X h ρ Fr w) {r:Rid} {sz m0:Nat} {nl:Option Bool} {xs ys:List (List AV)} {dt:List Nat} {v:Value} {i n:Nat} {G:Nat→Prop} (hv:VR w X.S h ρ (.ref r none sz 0 m0 nl) v) (hl:look r h=some (.row sz xs dt)) (hlen:ys.length=xs.length) (hm:xs.length=m0)
  (ho:OC w' G (.row sz ys) v) (hfull:∀ b,G b→Full b):∃ ents,Back X h ρ w w' S' i n n [r] G Full ents [(r,some (.row sz ys (List.range sz)))]:=by
 obtain ⟨-,rfl,-,-⟩:=whole_root m hv hl
 rw [←hm] at ho
 have hrow:RowEnt w' ⟨r, .row sz ys (List.range sz),ρ r,G⟩:=by
  refine ⟨sz,ys,_,rfl,?_⟩
  generalize ρ r=q at ho ⊢
  obtain ⟨g,cap⟩:=q
  cases g with
  | none=>
   left
   rcases ho.row_inv with ⟨h4,h5⟩ | ⟨g',cap',cs,ty,fr,Fs,e1,-⟩
   ·injection h5 with _ _ h6
    exact ⟨h4,by simp only at h6;rw [h6]⟩
   ·injection e1 with e1
    cases e1
  | some g=>
   right
   refine ⟨g,rfl,?_⟩
   rw [←hlen] at ho
   exact ho
 refine ⟨[⟨r, .row sz ys (List.range sz),ρ r,G⟩],⟨Nat.le_refl _,by simp,by simp,by simp,by simp,fun e he => ?_,fun e he b hb => ?_,fun e he e' he' b _ _ => ?_,by simp,fun e he _ b hb => ?_⟩⟩
 ·simp at he
  subst he
  exact .inr ⟨by simp, .inl ⟨hrow,sz,xs,dt,ys,hl,rfl,hlen,rfl⟩⟩
 ·simp at he
  subst he
  exact hb
 ·simp at he he'
  rw [he,he']
 ·simp at he
  subst he
  exact hfull b hb
theorem back_gone {i n:Nat} {rs:List Rid} (hn:rs.Nodup):Back X h ρ w w' S' i n n rs (fun _=>False) Full [] (gone rs) where
 le:=Nat.le_refl _
 sub:=by
  intro p hp
  obtain ⟨r,hr,rfl⟩:=List.mem_map.1 hp
  exact .inl ⟨rfl,hr⟩
 sup:=by simp
 keys:=by
  have:(gone rs).map (·.1)=rs:=by simp [gone,Function.comp_def]
  rw [this]
  exact hn
 cover:=by
  intro r hr
  have:(gone rs).map (·.1)=rs:=by simp [gone,Function.comp_def]
  rw [this]
  exact hr
 kind:=by simp
 foot:=by simp
 disj:=by simp
 enodup:=by simp
 full:=by simp
theorem backCells_sound (m:Mem X h ρ Fr w) {i n:Nat} (hn4:n≤4096):∀ {cs ds os:List AV} {rs:List Rid} {wr:Wr} {f:Nat→Value} {Gs:Nat→Nat→Prop},cellsW h cs=some (ds,rs)→rs.Nodup→backCells cs os=some wr→
  (∀ r ∈ rs,∀ m,m < 4096→r≠rt i m)→(∀ (k:Nat) (a:AV),cs[k]? = some a→VR w X.S h ρ a (f k))→(∀ k k' b,Gs k b→Gs k' b→k=k')→(∀ (k sz:Nat) (xs:List (List AV)),os[k]? = some (.row sz xs)→OC w' (Gs k) (.row sz xs) (f k))→
  (∀ k b,Gs k b→Full b)→∃ ents,Back X h ρ w w' S' i n n rs (fun b=>∃ k,Gs k b) Full ents wr
 | [],ds,os,rs,wr,f,Gs,hc,hn,hb,hfresh,hv,hd,ho,hfull=>by
  simp only [cellsW,Option.some.injEq,Prod.mk.injEq] at hc
  obtain ⟨rfl,rfl⟩:=hc
  cases os with
  | nil=>
   simp only [backCells,Option.some.injEq] at hb
   subst hb
   exact ⟨[],Back.nil.mono fun b hb=>hb.elim⟩
  | cons o os=>simp [backCells] at hb
 | a :: cs,ds,os,rs,wr,f,Gs,hc,hn,hb,hfresh,hv,hd,ho,hfull=>by
  simp only [cellsW] at hc
  split at hc
  rotate_left
  ·cases hc
  rename_i b q bs' rs' h1 h2
  simp only [Option.some.injEq,Prod.mk.injEq] at hc
  obtain ⟨rfl,rfl⟩:=hc
  obtain ⟨hn1,hn2,hn3⟩:=List.nodup_append.1 hn
  cases os with
  | nil=>simp [backCells] at hb
  | cons o os=>
   simp only [backCells] at hb
   split at hb
   rotate_left
   ·cases hb
   rename_i w1 w2 hb1 hb2
   simp only [Option.some.injEq] at hb
   subst hb
   have ih:∀ {wr'},backCells cs os=some wr'→∃ ents,Back X h ρ w w' S' i n n rs' (fun b=>∃ k,Gs (k + 1) b) Full ents wr':=fun hb'=>
    backCells_sound m hn4 (f:=fun k=>f (k + 1)) (Gs:=fun k=>Gs (k + 1)) h2 hn2 hb' (fun r hr=>hfresh r (by simp [hr])) (fun k a hk=>hv (k + 1) a (by simpa using hk)) (fun k k' b h3 h4=>by have:=hd _ _ b h3 h4;omega)
     (fun k sz xs hk=>ho (k + 1) sz xs (by simpa using hk)) (fun k b hb=>hfull _ b hb)
   have hjoin:∀ {wr1 ents1 G1},Back X h ρ w w' S' i n n q G1 Full ents1 wr1→(∀ b,G1 b→Gs 0 b)→∃ ents,Back X h ρ w w' S' i n n (q++rs') (fun b=>∃ k,Gs k b) Full ents (wr1++w2):=fun hb1 hG1=>by
    obtain ⟨ents2,he2⟩:=ih hb2
    refine ⟨_,(hb1.append he2 hn hfresh hn4 (fun b h3 ⟨k,h4⟩=>by have:=hd _ _ b (hG1 b h3) h4;omega)).mono ?_⟩
    rintro b (hb | ⟨k,hb⟩)
    ·exact ⟨0,hG1 b hb⟩
    ·exact ⟨k + 1,hb⟩
   have hskip:q = []→w1 = []→∃ ents,Back X h ρ w w' S' i n n (q++rs') (fun b=>∃ k,Gs k b) Full ents (w1++w2):=fun e e'=>by
    subst e e'
    obtain ⟨ents,he⟩:=ih hb2
    exact ⟨ents,he.mono fun b ⟨k,hk⟩=>⟨k + 1,hk⟩⟩
   unfold cellW at h1
   split at h1
   ·rename_i r sz m0 nl
    split at h1
    ·rename_i sz' xs dt hl
     split at h1
     ·rename_i hcc
      obtain ⟨hm,rfl⟩:=hcc
      simp only [Option.some.injEq,Prod.mk.injEq] at h1
      obtain ⟨rfl,rfl⟩:=h1
      simp only [backCell] at hb1
      split at hb1
      ·rename_i sz2 ys
       split at hb1
       ·rename_i hcc
        obtain ⟨hlen,rfl⟩:=hcc
        simp only [Option.some.injEq] at hb1
        subst hb1
        obtain ⟨ents1,he1⟩:=back_row (Full:=Full) (S':=S') (i:=i) (n:=n) m (hv 0 _ rfl) hl (by rw [hlen,hm]) hm (ho 0 _ _ rfl) (fun b hb=>hfull 0 b hb)
        exact hjoin he1 (fun b h=>h)
       ·cases hb1
      ·simp only [Option.some.injEq] at hb1
       subst hb1
       exact hjoin (back_gone (by simp)) (fun _ h=>h.elim)
      ·cases hb1
     ·cases h1
    ·cases h1
   all_goals first
    |(simp only [Option.some.injEq,Prod.mk.injEq] at h1
      obtain ⟨rfl,rfl⟩:=h1
      simp only [backCell,Option.some.injEq] at hb1
      exact hskip rfl hb1.symm)
    | cases h1
theorem backW_sound (m:Mem X h ρ Fr w) {a b o:AV} {v:Value} {i n n' size:Nat} {rs:List Rid} {wr:Wr} {G:Nat→Prop} (hv:VR w X.S h ρ a v) (hp:passW h size a=some (b,rs)) (hn:rs.Nodup) (hback:backW h i n size a o=some (wr,n'))
  (hfresh:∀ r ∈ rs,∀ m,m < 4096→r≠rt i m) (hn':n'≤4096)
  (hout:OutR w' S' G o v) (hbox:∀ r j cs g p,a = .ptr r none 0 j→look r h=some (.box cs)→ρ r=(some g,p)→∃ c c' ty fr,w.heap[g]? = some (.cells c ty fr)∧w'.heap[g]? = some (.cells c' ty fr)∧c'.size=c.size∧∀ q,¬ (p + j≤q∧q < p + j + size)→c'[q]? = c[q]?)
  (hfull:∀ b,G b→(∀ o,v ≠ .pointer (some ⟨b,o,none⟩))→Full b) (hgr:∀ b,G b→¬ Rest w h ρ Fr a b) (hkeep:∀ b,Rest w h ρ Fr a b→w'.heap[b]? = w.heap[b]?) (hfr:∀ b,Rest w h ρ Fr a b→Full b) :
  ∃ ents,Back X h ρ w w' S' i n n' rs (fun b=>G b∨Rest w h ρ Fr a b) Full ents wr:=by
 have main:(∀ r q sz o m nl,a ≠ .ref r (some q) sz o m nl)→(∀ cs,a ≠ .agg cs)→∃ ents,Back X h ρ w w' S' i n n' rs (fun b=>G b∨Rest w h ρ Fr a b) Full ents wr:=fun h1 h2=>by
  obtain ⟨ents,he⟩:=backW_sound0 m hv hp hn hback hfresh hn' hout hbox hfull h1 h2
  exact ⟨ents,he.mono fun b hb => .inl hb⟩
 unfold passW at hp
 split at hp
 ·exact main (by simp) (by simp)
 ·-- a row within a row
  rename_i r i0 j0 sz m0 nl
  split at hp
  rotate_left
  ·cases hp
  rename_i szr xs dt hl
  split at hp
  rotate_left
  ·cases hp
  rename_i sz' ys hs
  split at hp
  rotate_left
  ·cases hp
  rename_i hcc
  obtain ⟨hm,rfl⟩:=hcc
  simp only [Option.some.injEq,Prod.mk.injEq] at hp
  obtain ⟨rfl,rfl⟩:=hp
  simp only [backW,hl] at hback
  split at hback
  ·rename_i sz2 ys2
   split at hback
   rotate_left
   ·cases hback
   rename_i hcc
   obtain ⟨hlen,rfl⟩:=hcc
   simp only [Option.some.injEq,Prod.mk.injEq] at hback
   obtain ⟨rfl,rfl⟩:=hback
   have hnp:∀ b,G b→Full b:=fun b hb=>hfull b hb (fun o e=>by
    obtain ⟨-,-,-,_,_,-,-,-,e2⟩:=sub_row m hv hl hs hm
    rw [e2] at e
    cases e)
   obtain ⟨g,k1,k2,k3⟩:=sub_back (ys':=ys2) m hv hl hs hm (G:=G) hout (fun b h1 h2=>hkeep b ⟨h1,h2⟩) (fun b h1 h2=>Classical.byContradiction fun h3=>hgr b h1 ⟨h2,h3⟩)
   have hrow:RowEnt w' ⟨r, .row szr (setSub xs (some (i0,j0)) ys2) dt,ρ r,fun b=>G b∨(Fr r b∧¬ SubF w h ρ Fr r i0 j0 b)⟩:=⟨_,_,_,rfl, .inr ⟨g,k1,k3⟩⟩
   refine ⟨[⟨r, .row szr (setSub xs (some (i0,j0)) ys2) dt,ρ r,fun b=>G b∨(Fr r b∧¬ SubF w h ρ Fr r i0 j0 b)⟩],⟨Nat.le_refl _,by simp,by simp,by simp,by simp,fun e he => ?_,fun e he b hb => ?_,fun e he e' he' b _ _ => ?_,by simp,fun e he _ b hb => ?_⟩⟩
   ·simp at he
    subst he
    refine .inr ⟨by simp, .inr (.inr ⟨hrow,szr,xs,dt,i0,j0,sz2,ys,ys2,hl,hs,by omega,rfl,rfl,fun g' hg' => ?_⟩)⟩
    simp only at hg'
    rw [k1] at hg'
    injection hg' with hg'
    rw [←hg']
    exact k2
   ·simp at he
    subst he
    exact hb
   ·simp at he he'
    rw [he,he']
   ·simp at he
    subst he
    rcases hb with hb | hb
    ·exact hnp b hb
    ·exact hfr b hb
  ·simp only [Option.some.injEq,Prod.mk.injEq] at hback
   obtain ⟨rfl,rfl⟩:=hback
   exact ⟨[],(back_gone (rs := [r]) (by simp)).mono fun _ h=>h.elim⟩
  ·cases hback
 ·-- a struct
  rename_i cs
  split at hp
  rotate_left
  ·cases hp
  rename_i ds rs0 hcs
  simp only [Option.some.injEq,Prod.mk.injEq] at hp
  obtain ⟨rfl,rfl⟩:=hp
  simp only [backW] at hback
  split at hback
  ·rename_i os
   cases hbc:backCells cs os with
   | none=>rw [hbc] at hback;cases hback
   | some w0=>
    rw [hbc] at hback
    simp only [Option.map_some,Option.some.injEq,Prod.mk.injEq] at hback
    obtain ⟨rfl,rfl⟩:=hback
    obtain ⟨vs,rfl,v1,v2⟩:=hv.agg_inv
    obtain ⟨vs',e1,Fs,o1,o2,o3⟩:=hout
    injection e1 with e1
    subst e1
    obtain ⟨ents,he⟩:=backCells_sound (Full:=Full) (S':=S') m hn' (f:=fun k=>vs.getD k Go.undef) hcs hn hbc hfresh (fun k a hk=>by
     have hlt:=lt_len hk
     rw [←v1] at hlt
     have:vs.getD k Go.undef=vs[k]:=by simp [hlt]
     rw [this]
     exact .up (.up (v2 k a _ hk (Array.getElem?_eq_getElem hlt)))) o2 o3 (fun k b hb=>hfull b (o1 k b hb) (by simp))
    exact ⟨ents,he.mono fun b ⟨k,hk⟩ => .inl (o1 k b hk)⟩
  ·simp only [Option.some.injEq,Prod.mk.injEq] at hback
   obtain ⟨rfl,rfl⟩:=hback
   rw [cellRoots_eq hcs]
   exact ⟨[],(back_gone hn).mono fun _ h=>h.elim⟩
  ·cases hback
 ·exact main (by simp) (by simp)
 ·cases hp
end

section
variable {X:Fix} {w w':World} {h:Heap} {ρ:Rho} {Fr:Rid→Nat→Prop} {S' Full:Nat→Prop}
def Rests (w:World) (h:Heap) (ρ:Rho) (Fr:Rid→Nat→Prop) (as:List AV) (ms:List (Bool × Nat)) (Gs:Nat→Nat→Prop) (b:Nat):Prop:=
 (∃ k,Gs k b)∨∃ (j:Nat) (a:AV) (n:Nat),as[j]? = some a∧ms[j]? = some (true,n)∧Rest w h ρ Fr a b
theorem rest_own {a b:AV} {n:Nat} {rs:List Rid} (hc:passW h n a=some (b,rs)):∀ blk,Rest w h ρ Fr a blk→Own h Fr rs blk:=by
 intro blk hr
 unfold Rest at hr
 split at hr
 ·rename_i r i j sz o m nl
  unfold passW at hc
  split at hc
  ·rename_i e
   cases e
  ·rename_i e
   injection e with e1 e2 e3 e4 e5 e6
   injection e2 with e2
   injection e2 with e2 e2'
   subst e1 e2 e2' e3 e5
   split at hc
   ·rename_i hl
    split at hc
    ·split at hc
     ·simp only [Option.some.injEq,Prod.mk.injEq] at hc
      obtain ⟨rfl,rfl⟩:=hc
      exact ⟨_,_,by simp,hl,hr.1⟩
     ·cases hc
    ·cases hc
   ·cases hc
  ·rename_i e
   cases e
  ·rename_i e
   cases e
  ·cases hc
 ·exact hr.elim
theorem passAll_rest:∀ {as bs:List AV} {ms:List (Bool × Nat)} {rs ws:List Rid},passAll h ms as=some (bs,rs,ws)→∀ (j:Nat) (a:AV) (n:Nat),as[j]? = some a→ms[j]? = some (true,n)→∀ b,Rest w h ρ Fr a b→Own h Fr ws b
 | [],bs,ms,rs,ws,hp=>by simp
 | a :: as,bs,ms,rs,ws,hp=>by
  intro j a' n' h3 h4 b hr
  match ms,hp,h4 with
  | [],hp,h4=>simp at h4
  |(false,n) :: ms',hp,h4=>
   simp only [passAll] at hp
   split at hp
   ·rename_i b0 r bs' rs' ws' h1 h2
    simp only [Option.some.injEq,Prod.mk.injEq] at hp
    obtain ⟨rfl,rfl,rfl⟩:=hp
    cases j with
    | zero=>simp at h4
    | succ j=>exact passAll_rest h2 j a' n' (by simpa using h3) (by simpa using h4) b hr
   ·cases hp
  |(true,n) :: ms',hp,h4=>
   simp only [passAll] at hp
   split at hp
   ·rename_i b0 r bs' rs' ws' h1 h2
    simp only [Option.some.injEq,Prod.mk.injEq] at hp
    obtain ⟨rfl,rfl,rfl⟩:=hp
    cases j with
    | zero=>
     simp at h3
     subst h3
     exact (rest_own h1 b hr).of_append_left
    | succ j=>exact (passAll_rest h2 j a' n' (by simpa using h3) (by simpa using h4) b hr).of_append_right
   ·cases hp
theorem backAll_sound (m:Mem X h ρ Fr w) {i n':Nat} (hn':n'≤4096):∀ {as bs os:List AV} {ms:List (Bool × Nat)} {rs ws:List Rid} {vs:List Value} {n:Nat} {wr:Wr} {Gs:Nat→Nat→Prop},passAll h ms as=some (bs,rs,ws)→ws.Nodup→backAll h i n ms as os=some (wr,n')→
  (∀ r ∈ ws,∀ m,m < 4096→r≠rt i m)→vs.length=as.length→(∀ (k:Nat) (a:AV) (v:Value),as[k]? = some a→vs[k]? = some v→VR w X.S h ρ a v)→
  (∀ k k' b,Gs k b→Gs k' b→k=k')→(∀ (k:Nat) (o:AV) (u:Value),os[k]? = some o→vs[k]? = some u→OutR w' S' (Gs k) o u)→
  (∀ (k:Nat) (b:Nat) (u:Value),Gs k b→vs[k]? = some u→(∀ o,u ≠ .pointer (some ⟨b,o,none⟩))→Full b)→
  (∀ (k:Nat) (r:Rid) (j:Nat) (cs:List AV) (g p size:Nat),as[k]? = some (AV.ptr r none 0 j)→ms[k]? = some (true,size)→look r h=some (.box cs)→ρ r=(some g,p)→∃ c c' ty fr,w.heap[g]? = some (.cells c ty fr)∧w'.heap[g]? = some (.cells c' ty fr)∧c'.size=c.size∧∀ q,¬ (p + j≤q∧q < p + j + size)→c'[q]? = c[q]?)→
  (∀ (k b:Nat),Gs k b→∀ (j:Nat) (a:AV) (n:Nat),as[j]? = some a→ms[j]? = some (true,n)→¬ Rest w h ρ Fr a b)→
  (∀ (j:Nat) (a:AV) (n:Nat),as[j]? = some a→ms[j]? = some (true,n)→∀ b,Rest w h ρ Fr a b→w'.heap[b]? = w.heap[b]?∧Full b)→
  ∃ ents,Back X h ρ w w' S' i n n' ws (Rests w h ρ Fr as ms Gs) Full ents wr
 | [],bs,os,ms,rs,ws,vs,n,wr,Gs,hp,hn,hb,hfresh,hl,hv,hd,ho,hfull,hbox,hgr,hrest=>by
  unfold passAll at hp
  simp only [Option.some.injEq,Prod.mk.injEq] at hp
  obtain ⟨rfl,rfl,rfl⟩:=hp
  cases os with
  | nil=>
   have:backAll h i n ms [] []=some ([],n):=by cases ms<;>rfl
   rw [this] at hb
   simp only [Option.some.injEq,Prod.mk.injEq] at hb
   obtain ⟨rfl,rfl⟩:=hb
   exact ⟨[],Back.nil.mono fun b hb=>hb.elim⟩
  | cons o os=>
   exfalso
   match ms,hb with
   | [],hb=>simp [backAll] at hb
   |(true,_) :: _,hb=>simp [backAll] at hb
   |(false,_) :: _,hb=>simp [backAll] at hb
 | a :: as,bs,os,ms,rs,ws,vs,n,wr,Gs,hp,hn,hb,hfresh,hl,hv,hd,ho,hfull,hbox,hgr,hrest=>by
  cases vs with
  | nil=>simp at hl
  | cons v vs=>
   cases os with
   | nil=>
    exfalso
    match ms,hb with
    | [],hb=>simp [backAll] at hb
    |(true,_) :: _,hb=>simp [backAll] at hb
    |(false,_) :: _,hb=>simp [backAll] at hb
   | cons o os=>
    have hd':∀ k k' b,Gs (k + 1) b→Gs (k' + 1) b→k=k':=fun k k' b h1 h2=>by have:=hd _ _ b h1 h2;omega
    have hread:∀ (ms':List (Bool × Nat)) (bs':List AV) (rs':List Rid),passAll h ms' as=some (bs',rs',ws)→backAll h i n ms' as os=some (wr,n')→(∀ k,ms'[k]? = ms[k + 1]?)→
      ∃ ents,Back X h ρ w w' S' i n n' ws (Rests w h ρ Fr (a :: as) ms Gs) Full ents wr:=by
     intro ms' bs' rs' h1 h2 hms
     obtain ⟨ents,he⟩:=backAll_sound m hn' h1 hn h2 hfresh (by simpa using hl) (fun k a v h3 h4=>hv (k + 1) a v (by simpa using h3) (by simpa using h4)) hd'
      (fun k o u h3 h4=>ho (k + 1) o u (by simpa using h3) (by simpa using h4)) (fun k b u h3 h4=>hfull (k + 1) b u h3 (by simpa using h4))
      (fun k r j cs g p size h3 h4=>hbox (k + 1) r j cs g p size (by simpa using h3) (by rw [←hms];exact h4))
      (fun k b h3 j a n h4 h5=>hgr (k + 1) b h3 (j + 1) a n (by simpa using h4) (by rw [←hms];exact h5)) (fun j a n h4 h5=>hrest (j + 1) a n (by simpa using h4) (by rw [←hms];exact h5))
     refine ⟨ents,he.mono ?_⟩
     rintro b (⟨k,hk⟩ | ⟨j,a,n,h3,h4,h5⟩)
     ·exact .inl ⟨k + 1,hk⟩
     ·exact .inr ⟨j + 1,a,n,by simpa using h3,by rw [←hms];exact h4,h5⟩
    match ms,hp,hb,hread,hbox,hgr,hrest with
    | [],hp,hb,hread,_,_,_=>
     simp only [passAll] at hp
     split at hp
     ·rename_i b r bs' rs' ws' h1 h2
      simp only [Option.some.injEq,Prod.mk.injEq] at hp
      obtain ⟨rfl,rfl,rfl⟩:=hp
      exact hread [] _ _ h2 (by simpa only [backAll] using hb) (by simp)
     ·cases hp
    |(false,sz) :: ms',hp,hb,hread,_,_,_=>
     simp only [passAll] at hp
     split at hp
     ·rename_i b r bs' rs' ws' h1 h2
      simp only [Option.some.injEq,Prod.mk.injEq] at hp
      obtain ⟨rfl,rfl,rfl⟩:=hp
      exact hread ms' _ _ h2 (by simpa only [backAll] using hb) (by simp)
     ·cases hp
    |(true,sz) :: ms',hp,hb,_,hbox,hgr,hrest=>
     simp only [passAll] at hp
     split at hp
     ·rename_i b r bs' rs' ws' h1 h2
      simp only [Option.some.injEq,Prod.mk.injEq] at hp
      obtain ⟨rfl,rfl,rfl⟩:=hp
      simp only [backAll] at hb
      split at hb
      ·rename_i wr1 n1 hb1
       split at hb
       ·rename_i wr2 n2 hb2
        simp only [Option.some.injEq,Prod.mk.injEq] at hb
        obtain ⟨rfl,rfl⟩:=hb
        obtain ⟨hn1,hn2,hn3⟩:=List.nodup_append.1 hn
        obtain ⟨ents2,he2⟩:=backAll_sound m hn' h2 hn2 hb2 (fun q hq=>hfresh q (by simp [hq])) (by simpa using hl) (fun k a v h3 h4=>hv (k + 1) a v (by simpa using h3) (by simpa using h4)) hd'
         (fun k o u h3 h4=>ho (k + 1) o u (by simpa using h3) (by simpa using h4)) (fun k b u h3 h4=>hfull (k + 1) b u h3 (by simpa using h4))
         (fun k r j cs g p size h3 h4=>hbox (k + 1) r j cs g p size (by simpa using h3) (by simpa using h4))
         (fun k b h3 j a n h4 h5=>hgr (k + 1) b h3 (j + 1) a n (by simpa using h4) (by simpa using h5)) (fun j a n h4 h5=>hrest (j + 1) a n (by simpa using h4) (by simpa using h5))
        obtain ⟨ents1,he1⟩:=backW_sound (Full:=Full) m (hv 0 a v rfl rfl) h1 hn1 hb1 (fun q hq=>hfresh q (by simp [hq])) (by have:=he2.le;omega) (ho 0 o v rfl rfl)
         (fun r j cs g p e h3 h4=>hbox 0 r j cs g p sz (by rw [e];rfl) rfl h3 h4) (fun b h3 h4=>hfull 0 b v h3 rfl h4)
         (fun b h3=>hgr 0 b h3 0 a sz rfl rfl) (fun b h3=>(hrest 0 a sz rfl rfl b h3).1) (fun b h3=>(hrest 0 a sz rfl rfl b h3).2)
        have hdj:∀ b,Own h Fr r b→Own h Fr ws' b→False:=fun b h3 h4=>Own.disj m (fun r hr hr'=>hn3 r hr r hr' rfl) h3 h4
        refine ⟨ents1++ents2,(he1.append he2 hn hfresh hn' ?_).mono ?_⟩
        ·rintro b (h3 | h3) (⟨k,h4⟩ | ⟨j,a',n,h4,h5,h6⟩)
         ·have:=hd _ _ b h3 h4;omega
         ·exact hgr 0 b h3 (j + 1) a' n (by simpa using h4) (by simpa using h5) h6
         ·exact hgr (k + 1) b h4 0 a sz rfl rfl h3
         ·exact hdj b (rest_own h1 b h3) (passAll_rest h2 j a' n h4 h5 b h6)
        ·rintro b ((hb | hb) | (⟨k,hb⟩ | ⟨j,a',n,h4,h5,h6⟩))
         ·exact .inl ⟨0,hb⟩
         ·exact .inr ⟨0,a,sz,rfl,rfl,hb⟩
         ·exact .inl ⟨k + 1,hb⟩
         ·exact .inr ⟨j + 1,a',n,by simpa using h4,by simpa using h5,h6⟩
       ·cases hb
      ·cases hb
     ·cases hp
theorem FC.empty {S T:Nat→Prop} {sz:Nat} {v:Value} (hf:FC w S (.row sz []) v):FC w T (.row sz []) v:=by
 cases hf with
 | nil=>exact .nil _
 | row vs h1 h2 h3 h4=>exact .row vs h1 (by simp) (by simp) (by simp)
theorem FV.noFrz {S T:Nat→Prop} {a:AV} {v:Value} (hf:FV w S a v) (hn:hasFrz1 a=false):FV w T a v:=by
 have cell:∀ {S:Nat→Prop} {x:AV} {u:Value},FV w S x u→hasFrz0 x=false→FV w T x u:=by
  intro S x u hx hxn
  cases hx with
  | int=>exact .int _ _
  | bool=>exact .bool _
  | str h=>exact .str h
  | unk h=>exact .unk h
  | undef=>exact .undef
  | nilp=>exact .nilp
  | @frz sz nl xs _ h hn=>
   cases xs with
   | nil=>exact .frz h.empty hn
   | cons=>cases hxn
  | fptr=>cases hxn
  | fn=>cases hxn
  | agg=>cases hxn
 cases hf with
 | int=>exact .int _ _
 | bool=>exact .bool _
 | str h=>exact .str h
 | unk h=>exact .unk h
 | undef=>exact .undef
 | nilp=>exact .nilp
 | @frz sz nl xs _ h hn2=>
  cases xs with
  | nil=>exact .frz h.empty hn2
  | cons=>cases hn
 | fptr=>cases hn
 | fn=>cases hn
 | @agg cs vs h1 h2=>
  refine .agg h1 (fun k x u h3 h4=>cell (h2 k x u h3 h4) ?_)
  simp only [hasFrz1,List.any_eq_false] at hn
  simpa using hn x (List.mem_of_getElem? h3)
theorem CellsR.noFrz {S T F:Nat→Prop} {cs:List AV} {f:Nat→Value} (hc:CellsR w S F cs f) (hn:hasFrz1 (.agg cs)=false):CellsR w T F cs f:=by
 obtain ⟨Fs,h1,h2,h3⟩:=hc
 refine ⟨Fs,h1,h2,fun k a hk => ?_⟩
 have hx:hasFrz0 a=false:=by
  simp only [hasFrz1,List.any_eq_false] at hn
  simpa using hn a (List.mem_of_getElem? hk)
 have h4:=h3 k a hk
 generalize f k=u at h4
 generalize Fs k=Fk at h4
 cases h4 with
 | row h=>exact .row h
 | fv h=>
  refine .fv (h.noFrz ?_)
  cases a<;>first | rfl | exact hx | (simp [hasFrz0] at hx)
  rename_i sz nl xs
  cases xs<;>first | rfl | exact hx
theorem ResR1.noFrz {S T F:Nat→Prop} {a:AV} {v:Value} (hr:ResR1 w S F a v) (hn:hasFrz1 a=false):ResR1 w T F a v:=by
 unfold ResR1 at *
 split
 ·exact hr
 ·obtain ⟨vs,h1,h2,h3⟩:=hr
  exact ⟨vs,h1,h2,h3.noFrz hn⟩
 ·rename_i h1 h2
  have hr':FV w S a v:=by
   split at hr
   ·exact absurd rfl (h1 _ _)
   ·exact absurd rfl (h2 _)
   ·exact hr
  exact hr'.noFrz hn
theorem ResR.noFrz {S T F:Nat→Prop} {a:AV} {v:Value} (hr:ResR w S F a v) (hn:hasFrz a=false):ResR w T F a v:=by
 unfold ResR at *
 split
 ·rename_i rs
  obtain ⟨vs,h1,h2,Fs,h3,h4,h5⟩:=hr
  refine ⟨vs,h1,h2,Fs,h3,h4,fun k a hk=>(h5 k a hk).noFrz ?_⟩
  simp only [hasFrz,List.any_eq_false] at hn
  simpa using hn a (List.mem_of_getElem? hk)
 ·obtain ⟨g,o,h1,vs,ty,fr,h2,h3,h4,h5,h6⟩:=hr
  exact ⟨g,o,h1,vs,ty,fr,h2,h3,h4,h5,h6.noFrz hn⟩
 ·trivial
 ·rename_i h1 h2 h3
  have hr':ResR1 w S F a v:=by
   split at hr
   ·exact absurd rfl (h1 _)
   ·exact absurd rfl (h2 _)
   ·exact absurd rfl (h3 _ _ _ _ _)
   ·exact hr
  refine hr'.noFrz ?_
  cases a<;>first | exact hn | exact absurd rfl (h1 _)
theorem OutR.noFrz {S T F:Nat→Prop} {a:AV} {v:Value} (hr:OutR w S F a v) (hn:hasFrz a=false):OutR w T F a v:=by
 unfold OutR at *
 split
 ·exact hr
 ·obtain ⟨g,o,h1,vs,ty,fr,h2,h3,h4,h5,h6⟩:=hr
  exact ⟨g,o,h1,vs,ty,fr,h2,h3,h4,h5,h6.noFrz hn⟩
 ·exact hr
 ·trivial
theorem CellsR.mono' {S T F:Nat→Prop} {cs:List AV} {f:Nat→Value} (hc:CellsR w S F cs f) (hS:∀ b,S b→T b):CellsR w T F cs f:=hc.mono hS fun _ h=>h
theorem ResR1.mono {S T F:Nat→Prop} {a:AV} {v:Value} (hr:ResR1 w S F a v) (hS:∀ b,S b→T b):ResR1 w T F a v:=by
 unfold ResR1 at *
 split
 ·exact hr
 ·obtain ⟨vs,h1,h2,h3⟩:=hr
  exact ⟨vs,h1,h2,h3.mono' hS⟩
 ·rename_i h1 h2
  have hr':FV w S a v:=by
   split at hr
   ·exact absurd rfl (h1 _ _)
   ·exact absurd rfl (h2 _)
   ·exact hr
  exact hr'.mono hS
theorem ResR.mono {S T F:Nat→Prop} {a:AV} {v:Value} (hr:ResR w S F a v) (hS:∀ b,S b→T b):ResR w T F a v:=by
 unfold ResR at *
 split
 ·rename_i rs
  obtain ⟨vs,h1,h2,Fs,h3,h4,h5⟩:=hr
  exact ⟨vs,h1,h2,Fs,h3,h4,fun k a hk=>(h5 k a hk).mono hS⟩
 ·obtain ⟨g,o,h1,vs,ty,fr,h2,h3,h4,h5,h6⟩:=hr
  exact ⟨g,o,h1,vs,ty,fr,h2,h3,h4,h5,h6.mono' hS⟩
 ·trivial
 ·rename_i h1 h2 h3
  have hr':ResR1 w S F a v:=by
   split at hr
   ·exact absurd rfl (h1 _)
   ·exact absurd rfl (h2 _)
   ·exact absurd rfl (h3 _ _ _ _ _)
   ·exact hr
  exact hr'.mono hS
theorem OutR.mono {S T F:Nat→Prop} {a:AV} {v:Value} (hr:OutR w S F a v) (hS:∀ b,S b→T b):OutR w T F a v:=by
 unfold OutR at *
 split
 ·exact hr
 ·obtain ⟨g,o,h1,vs,ty,fr,h2,h3,h4,h5,h6⟩:=hr
  exact ⟨g,o,h1,vs,ty,fr,h2,h3,h4,h5,h6.mono' hS⟩
 ·exact hr
 ·trivial
end

theorem find_ent:∀ {ents:List Ent} {e:Ent},(ents.map (·.r)).Nodup→e ∈ ents→ents.find? (fun x=>x.r == e.r)=some e
 | [],e,_,he=>by simp at he
 | x :: ents,e,hn,he=>by
  simp only [List.map_cons,List.nodup_cons] at hn
  simp only [List.find?_cons]
  rcases List.mem_cons.1 he with rfl | he
  ·simp
  ·have hne:x.r≠e.r:=fun h=>hn.1 (h ▸ List.mem_map.2 ⟨e,he,rfl⟩)
   have:(x.r == e.r)=false:=by simp [hne]
   rw [this]
   exact find_ent hn.2 he
theorem find_none {ents:List Ent} {r:Rid} (h:r ∉ ents.map (·.r)):ents.find? (fun x=>x.r == r)=none:=by
 rw [List.find?_eq_none]
 intro x hx
 simp only [beq_iff_eq]
 exact fun e=>h (e ▸ List.mem_map.2 ⟨x,hx,rfl⟩)
theorem lastWr_nodup {r:Rid} {x:Option Root}:∀ {wr:Wr},(wr.map (·.1)).Nodup→(r,x) ∈ wr→lastWr r wr=some x
 | [],_,h=>by simp at h
 |(q,y) :: wr,hn,h=>by
  simp only [List.map_cons,List.nodup_cons] at hn
  simp only [lastWr]
  rcases List.mem_cons.1 h with h | h
  ·injection h with h1 h2
   subst h1 h2
   rw [lastWr_none.2 hn.1]
   simp
  ·rw [lastWr_nodup hn.2 h]
section
variable {X:Fix} {D:Nat→Prop} {s:St} {a:Act} {w w':World} {i:Nat} {dst:Option Tmp} {e:Eff} {v:Value} {ρ:Rho} {Fr:Rid→Nat→Prop}
theorem CellC.va {S:Nat→Prop} {ents:List Ent} {x:AV} {u:Value} {h':Heap} {ρ':Rho} (hc:CellC w' S ents x u) (hl:∀ e ∈ ents,look e.r h'=some e.x∧ρ' e.r=e.bc):VA w' S h' ρ' x u:=by
 rcases hc with hf | ⟨e,he,sz,xs,hx,rfl,rfl,hrow⟩
 ·exact .fv hf
 ·obtain ⟨h1,h2⟩:=hl e he
  rw [hx] at h1
  obtain ⟨sz2,xs2,dt,h3,h4⟩:=hrow
  rw [hx] at h3
  injection h3 with h3 h3' h3''
  subst h3 h3' h3''
  have hcap:xs.length≤e.bc.2∧(xs ≠ []→e.bc.1≠none)∧(e.bc.1=none→e.bc.2=0):=by
   rcases h4 with ⟨h5,h6⟩ | ⟨g,h5,h6⟩
   ·rw [h6,h5];simp
   ·obtain ⟨g2,c2,e3,e4,-⟩:=h6.slice_inv
    injection e3 with _ _ e3
    rw [h5]
    exact ⟨by omega,by simp,by simp⟩
  exact (VR.newrow (w':=w') (S:=S) (nl:=none) h1 hcap.1 hcap.2.1 hcap.2.2 (by simp) (ρ':=ρ') (g:=e.bc.1) (cap:=e.bc.2) h2).ref_inv
theorem CellC.rids {S:Nat→Prop} {ents:List Ent} {x:AV} {u:Value} (hc:CellC w' S ents x u):∀ q ∈ rid2 x,∃ e ∈ ents,q=e.r∧∃ sz xs,e.x = .row sz xs []:=by
 intro q hq
 rcases hc with hf | ⟨e,he,sz,xs,hx,rfl,-⟩
 ·rw [hf.norid.2.1] at hq;cases hq
 ·simp [rid2,rid1] at hq
  exact ⟨e,he,hq,sz,xs,hx⟩
theorem CellC.rids' {S:Nat→Prop} {ents:List Ent} {x:AV} {u:Value} (hc:CellC w' S ents x u):Go.Fw.rids x=rid2 x∧rid1 x=rid2 x:=by
 rcases hc with hf | ⟨e,he,sz,xs,hx,rfl,-⟩
 ·rw [hf.norid.2.1,hf.norid.2.2,hf.norid.1];exact ⟨rfl,rfl⟩
 ·exact ⟨rfl,rfl⟩
theorem Sim.back (hl:Lab D s) (hS:∀ b,X.S b→b < X.w0.heap.size∧∀ k,¬ X.Chg b k) (m:Mem X s.h ρ Fr w) (ht:Tmps X s.t s.h ρ w a) (hD:¬ D i) {ws:List Rid} {n':Nat} {G Full:Nat→Prop} {ents:List Ent}
  (hb:Back X s.h ρ w w' X.S i 0 n' ws G Full ents e.wr) (hn':n'≤4096)
  (hos:w'.os=w.os) (htape:w'.tape=w.tape) (hout:w'.output=w.output) (hsize:w.heap.size≤w'.heap.size)
  (hkeep:∀ b,b < w.heap.size→¬ Own s.h Fr ws b→w'.heap[b]? = w.heap[b]?) (hchg:∀ b,b < X.w0.heap.size→ObjSame (X.Chg b) w.heap[b]? w'.heap[b]?)
  (hG:∀ b,G b→b < w'.heap.size∧(w.heap.size≤b∨Own s.h Fr ws b)) (hfull:∀ b,Full b→Free X b)
  (hd:∀ d,dst=some d→d < a.tmps.size) (hres:ResT w' X.S ents e.out v):Sim X (fun j=>D j∨j=i) (s.apply dst e) (a.put dst v) w':=by
 have hlook:∀ q,look q (applyWr e.wr s.h)=match lastWr q e.wr with | some x=>x | none=>look q s.h:=fun q=>look_applyWr q e.wr s.h
 have hlent:∀ x ∈ ents,look x.r (applyWr e.wr s.h)=some x.x:=fun x hx=>by
  rw [hlook,lastWr_nodup hb.keys (hb.sup x hx)]
 obtain ⟨ρ',hρ'⟩:∃ ρ':Rho,ρ'=fun r=>match ents.find? (fun x=>x.r == r) with | some x=>x.bc | none=>ρ r:=⟨_,rfl⟩
 obtain ⟨Fr',hFr'⟩:∃ Fr':Rid→Nat→Prop,Fr'=fun r=>match ents.find? (fun x=>x.r == r) with | some x=>x.F | none=>Fr r:=⟨_,rfl⟩
 have hρe:∀ x ∈ ents,ρ' x.r=x.bc:=fun x hx=>by rw [hρ'];simp only [find_ent hb.enodup hx]
 have hFe:∀ x ∈ ents,Fr' x.r=x.F:=fun x hx=>by rw [hFr'];simp only [find_ent hb.enodup hx]
 have honly:∀ q y,q ∈ e.wr.map (·.1)→look q (applyWr e.wr s.h)=some y→∃ x ∈ ents,q=x.r∧y=x.x:=by
  intro q y hq hy
  obtain ⟨p,hp,rfl⟩:=List.mem_map.1 hq
  rw [hlook,lastWr_nodup (x:=p.2) hb.keys hp] at hy
  simp only at hy
  rcases hb.sub p hp with ⟨h1,-⟩ | ⟨x,hx,rfl⟩
  ·rw [h1] at hy;cases hy
  ·simp only [Option.some.injEq] at hy
   exact ⟨x,hx,rfl,hy.symm⟩
 have hkw:∀ q,q ∈ e.wr.map (·.1)→LabR D q→q ∈ ws:=fun q hq hlq=>by
  rcases hb.key hq with h | ⟨m,-,h2,h3⟩
  ·exact h
  ·exact absurd (h3 ▸ hlq) (not_lab hD (by omega))
 have hwk:∀ b r y,r ∈ e.wr.map (·.1)→look r s.h=some y→Fr r b→Own s.h Fr ws b:=fun b r y hr hy hf=>
  ⟨r,y,hkw r hr (hl r (.inr ⟨r,y,hy, .inl rfl⟩)),hy,hf⟩
 have hcompat:∀ q,LabR D q→Compat w s.h ρ w' (applyWr e.wr s.h) ρ' q:=by
  intro q hlq
  by_cases hq:q ∈ e.wr.map (·.1)
  ·cases hy:look q (applyWr e.wr s.h) with
   | none=>exact Compat.gone hy
   | some y=>
    obtain ⟨x,hx,rfl,rfl⟩:=honly q y hq hy
    rcases hb.kind x hx with ⟨⟨m,-,h2,h3⟩,-⟩ | ⟨-,h1 | h1 | h1⟩
    ·exact absurd (h3 ▸ hlq) (not_lab hD (by omega))
    ·obtain ⟨hrow,sz,xs0,dt0,ys,k1,k2,k3,k4⟩:=h1
     rw [k2] at hy
     refine Compat.row k1 hy (by rw [hρe x hx,k4]) k3 (fun k l sz1 ys1 hs1 => ?_)
     exfalso
     obtain ⟨d1,c,d2,d3⟩:=subRow_inv hs1
     obtain ⟨sz2,xs2,dt2,h3,h4⟩:=hrow
     rw [k2] at h3
     injection h3 with h3 h3' _
     subst h3 h3'
     rcases h4 with ⟨h5,-⟩ | ⟨g,h5,h6⟩
     ·subst h5;simp at d2
     ·rcases h6.row_inv with ⟨f1,-⟩ | ⟨g2,cap2,cs2,ty2,fr2,Fs,f1,f2,f3,f4,f5,f6,f7,f8,f9,f10⟩
      ·subst f1;simp at d2
      ·have:=f9 k c d2
       have h7:=lt_len d3
       have h8:l ∉ List.range sz:=by simpa using d1
       rw [List.mem_range] at h8
       omega
    ·obtain ⟨cs,cs',g,o,k1,k2,k3,k4,k5,k6,-⟩:=h1
     rw [k2] at hy
     refine ⟨fun p sz ys hg => ?_,fun p k c hg=>⟨?_,fun g2 o2 hp => ?_⟩⟩
     ·simp [getRow,hy] at hg
     ·simp only [getChunk,hy] at hg
      split at hg
      ·exact ⟨cs,by simp [getChunk,k1]⟩
      ·cases hg
     ·simp only [ptrAt,k1,hy] at hp ⊢
      rw [hρe x hx,k4,←k3]
      exact hp
    ·obtain ⟨-,szr,xs,dt,i1,j1,sz,ys,ys',k1,k2,k3,k4,k5,k6⟩:=h1
     rw [k4] at hy
     exact Compat.sub k1 k2 k3 hy (by rw [hρe x hx,k5]) k6
  ·have hno:q ∉ ents.map (·.r):=fun h=>by
    obtain ⟨x,hx,rfl⟩:=List.mem_map.1 h
    exact hq (List.mem_map.2 ⟨_,hb.sup x hx,rfl⟩)
   refine Compat.still (by rw [hlook,lastWr_none.2 hq]) (by rw [hρ'];simp only [find_none hno]) (fun g hg hsome => ?_)
   obtain ⟨y,hy⟩:=Option.isSome_iff_exists.1 hsome
   have hgb:=m.block hy hg
   refine hkeep g (m.foot q y g hy hgb).1 (fun ⟨r,z,h1,h2,h3⟩ => ?_)
   have:=m.disj q y r z g hy h2 hgb h3
   subst this
   exact hq (hb.cover q h1)
 have hSw:∀ b,X.S b→b < w.heap.size→w'.heap[b]? = w.heap[b]?:=fun b hb' hlt=>hkeep b hlt (fun ⟨r,z,h1,h2,h3⟩=>(m.foot r z b h2 h3).2 hb')
 have hlab:∀ x ∈ ents,LabR (fun j=>D j∨j=i) x.r:=fun x hx=>by
  rcases hb.kind x hx with ⟨⟨m,-,h2,h3⟩,-⟩ | ⟨-,h1 | h1 | h1⟩
  ·rw [h3];exact lab_rt (by omega)
  ·obtain ⟨-,sz,xs0,dt0,ys,k1,-⟩:=h1
   exact (hl _ (.inr ⟨_,_,k1, .inl rfl⟩)).mono fun _ h => .inl h
  ·obtain ⟨cs,cs',g,o,k1,-⟩:=h1
   exact (hl _ (.inr ⟨_,_,k1, .inl rfl⟩)).mono fun _ h => .inl h
  ·obtain ⟨-,szr,xs,dt,i1,j1,sz,ys,ys',k1,-⟩:=h1
   exact (hl _ (.inr ⟨_,_,k1, .inl rfl⟩)).mono fun _ h => .inl h
 have hva:∀ {x u},CellC w' X.S ents x u→VA w' X.S (applyWr e.wr s.h) ρ' x u:=fun hc=>hc.va fun x hx=>⟨hlent x hx,hρe x hx⟩
 refine Sim.write (i:=i) hl hS m ht (ρ':=ρ') (Fr':=Fr') ?_ hos htape hout hsize ?_ ?_ ?_ ?_ ?_ (fun q _ hq=>hcompat q hq) hd ?_ ?_ ?_
 ·intro r hr
  have hno:r ∉ ents.map (·.r):=fun h=>by
   obtain ⟨x,hx,rfl⟩:=List.mem_map.1 h
   exact hr (List.mem_map.2 ⟨_,hb.sup x hx,rfl⟩)
  rw [hρ',hFr']
  simp only [find_none hno]
  exact ⟨trivial,trivial⟩
 ·intro b hlt hk
  exact hkeep b hlt (fun ⟨r,z,h1,h2,h3⟩=>hk r z (hb.cover r h1) h2 h3)
 ·exact fun b r y _ _ _ hlt=>hchg b hlt
 ·intro r y hr hy
  obtain ⟨x,hx,rfl,rfl⟩:=honly r y hr hy
  rw [hρe x hx,hFe x hx]
  have hrowok:RowEnt w' x→RootOK X w' (applyWr e.wr s.h) ρ' x.F x.bc x.x:=by
   rintro ⟨sz,xs,dt,h1,h2⟩
   rw [h1]
   rcases h2 with ⟨h3,h4⟩ | ⟨g,h3,h4⟩
   ·exact .inr ⟨h4,h3⟩
   ·exact .inl ⟨g,h3,h4,fun b hb'=>hfull b (hb.full x hx ⟨sz,xs,dt,h1⟩ b hb')⟩
  rcases hb.kind x hx with ⟨-,⟨h1,-⟩ | ⟨h1,hfx⟩⟩ | ⟨-,h1 | h1 | h1⟩
  ·exact hrowok h1
  ·obtain ⟨cs,g,o,k1,k2,k3,vs',ty,fr,k4,k5,k6,k7⟩:=h1
   rw [k1,k2]
   refine ⟨g,vs',ty,fr,rfl,k4,k5,k6,(k3 g).2 rfl,fun b hb'=>(k3 b).1 hb',fun k _=>(hfull g (hfx g ((k3 g).2 rfl))).imp id fun h=>h _,fun k z hk => ?_⟩
   obtain ⟨u,q1,q2⟩:=k7 k z hk
   exact ⟨u,q1, .up (hva q2)⟩
  ·exact hrowok h1.1
  rotate_left
  ·exact hrowok h1.1
  ·obtain ⟨cs,cs',g,o,k1,k2,k3,k4,k5,k6,vs',ty,fr,k7,k8,k9,k10⟩:=h1
   obtain ⟨g',vs,ty2,fr2,m1,m2,m3,m4,m5,m6,m7,m8⟩:=m.root _ _ k1
   rw [k3] at m1 m7
   injection m1 with m1
   subst m1
   rw [k2,k4]
   refine ⟨g,vs',ty,fr,rfl,k7,k8,by simp only;rw [k6];exact k9,(k5 g).2 rfl,fun b hb'=>(k5 b).1 hb',fun k hk=>m7 k (by rw [←k6];exact hk),fun k z hk => ?_⟩
   obtain ⟨u,q1,q2⟩:=k10 k z hk
   refine ⟨u,q1,?_⟩
   rcases q2 with q2 | ⟨q2,q3⟩
   ·exact .up (hva q2)
   ·refine q3.upd hSw (fun q hq=>hcompat q (hl q (.inr ⟨_,_,k1, .inr ?_⟩)))
    simp only [ridsBox,List.mem_flatMap]
    exact ⟨z,List.mem_of_getElem? q2,hq⟩
 ·intro r y b hr hy hb'
  obtain ⟨x,hx,rfl,rfl⟩:=honly r y hr hy
  rw [hFe x hx] at hb'
  obtain ⟨h1,h2⟩:=hG b (hb.foot x hx b hb')
  refine ⟨h1,h2.imp id ?_⟩
  rintro ⟨q,z,h3,h4,h5⟩
  exact ⟨q,z,hb.cover q h3,h4,h5⟩
 ·intro r y r' y' b hr hr' hy hy' hb1 hb2
  obtain ⟨x,hx,rfl,rfl⟩:=honly r y hr hy
  obtain ⟨x',hx',rfl,rfl⟩:=honly r' y' hr' hy'
  rw [hFe x hx] at hb1
  rw [hFe x' hx'] at hb2
  exact hb.disj x hx x' hx' b hb1 hb2
 ·have hvb:∀ {x u},ResC w' X.S ents x u→VB w' X.S (applyWr e.wr s.h) ρ' x u:=by
   rintro x u (hc | ⟨as,vs,rfl,rfl,h1,h2⟩)
   ·exact .up (hva hc)
   ·refine .agg h1 (fun k x u h3 h4 => ?_)
    have:=hva (h2 k x h3)
    have hu:vs.getD k Go.undef=u:=by simp [h4]
    rw [hu] at this
    exact this
  rcases hres with (hc | ⟨x,hx,cs,g,o,hx1,hx2,hx3,rfl⟩ | ⟨x,hx,sz,sz',i1,j1,g,xs,ys,p,bc',hx1,hx2,hx3,hx4,hx5,rfl⟩) | ⟨as,vs,h0,rfl,h1,h2⟩
  ·exact .up (hvb hc)
  rotate_left
  ·rw [hx2]
   have hlx:=hlent x hx
   rw [hx1] at hlx
   refine .up (.up (.ptr (fun c hc=>⟨g,i1 * sz',?_,rfl⟩) ⟨_,rfl⟩))
   unfold ptrAt
   rw [hlx]
   exact ⟨sz',ys,bc',hx3,by rw [hρe x hx];exact hx4,hx5,rfl⟩
  rotate_left
  ·rw [hx3]
   have hlx:=hlent x hx
   rw [hx1] at hlx
   have hrx:=hρe x hx
   rw [hx2] at hrx
   refine .up (.up (.ptr (fun c hc=>⟨g,o,?_,rfl⟩) ?_))
   ·unfold ptrAt
    rw [hlx]
    exact ⟨rfl,rfl,hrx⟩
   ·exact ⟨_,rfl⟩
  ·rw [h0]
   refine .tup h1 (fun k x u h3 h4 => ?_)
   have:=hvb (h2 k x h3)
   have hu:vs.getD k Go.undef=u:=by simp [h4]
   rw [hu] at this
   exact this
 ·have hc:∀ {x u},CellC w' X.S ents x u→∀ q ∈ rid2 x,LabR (fun j=>D j∨j=i) q:=fun hc q hq=>by
   obtain ⟨e',h1,rfl,-⟩:=hc.rids q hq
   exact hlab e' h1
  have hc2:∀ {x u},ResC w' X.S ents x u→∀ q ∈ rid2 x,LabR (fun j=>D j∨j=i) q:=by
   rintro x u (h | ⟨as,vs,rfl,rfl,h1,h2⟩) q hq
   ·exact hc h q hq
   ·simp only [rid2,List.mem_flatMap] at hq
    obtain ⟨y,hy,hq⟩:=hq
    obtain ⟨k,hk⟩:=List.mem_iff_getElem?.1 hy
    exact hc (h2 k y hk) q ((h2 k y hk).rids'.2 ▸ hq)
  intro q hq
  rcases hres with (h | ⟨x,hx,cs,g,o,hx1,hx2,hx3,rfl⟩ | ⟨x,hx,sz,sz',i1,j1,g,xs,ys,p,bc',hx1,hx3,-⟩) | ⟨as,vs,h0,rfl,h1,h2⟩
  rotate_left 2
  ·rw [hx3] at hq
   simp [rids,rid2,rid1] at hq
   rw [hq]
   exact hlab x hx
  rotate_left
  ·refine hc2 h q ?_
   rcases h with h | ⟨as,vs,h0,-⟩
   ·rw [←h.rids'.1];exact hq
   ·rw [h0] at hq ⊢; exact hq
  ·rw [hx3] at hq
   simp [rids,rid2,rid1] at hq
   rw [hq]
   exact hlab x hx
  ·rw [h0] at hq
   simp only [rids,List.mem_flatMap] at hq
   obtain ⟨y,hy,hq⟩:=hq
   obtain ⟨k,hk⟩:=List.mem_iff_getElem?.1 hy
   exact hc2 (h2 k y hk) q hq
 ·intro q y hq hy
  obtain ⟨x,hx,rfl,rfl⟩:=honly q y hq hy
  refine ⟨hlab x hx,fun r hr => ?_⟩
  rcases hb.kind x hx with ⟨-,⟨-,sz,xs,h1⟩ | ⟨h1,-⟩⟩ | ⟨-,h1 | h1 | h1⟩
  rotate_right
  ·obtain ⟨-,szr,xs,dt,i1,j1,sz,ys,ys',k1,k2,k3,k4,-⟩:=h1
   rw [k4] at hr;simp [ridsBox] at hr
  ·rw [h1] at hr;simp [ridsBox] at hr
  ·obtain ⟨cs,g,o,k1,k2,k3,vs',ty,fr,k4,k5,k6,k7⟩:=h1
   rw [k1] at hr
   simp only [ridsBox,List.mem_flatMap] at hr
   obtain ⟨c,hc,hr⟩:=hr
   obtain ⟨k,hk⟩:=List.mem_iff_getElem?.1 hc
   obtain ⟨u,q1,q2⟩:=k7 k c hk
   obtain ⟨e',h1,rfl,-⟩:=q2.rids r hr
   exact hlab e' h1
  ·obtain ⟨-,sz,xs0,dt0,ys,k1,k2,-⟩:=h1
   rw [k2] at hr;simp [ridsBox] at hr
  ·obtain ⟨cs,cs',g,o,k1,k2,k3,k4,k5,k6,vs',ty,fr,k7,k8,k9,k10⟩:=h1
   rw [k2] at hr
   simp only [ridsBox,List.mem_flatMap] at hr
   obtain ⟨c,hc,hr⟩:=hr
   obtain ⟨k,hk⟩:=List.mem_iff_getElem?.1 hc
   obtain ⟨u,q1,q2⟩:=k10 k c hk
   rcases q2 with q2 | ⟨q2,q3⟩
   ·obtain ⟨e',h1,rfl,-⟩:=q2.rids r hr
    exact hlab e' h1
   ·refine (hl r (.inr ⟨_,_,k1, .inr ?_⟩)).mono fun _ h => .inl h
    simp only [ridsBox,List.mem_flatMap]
    exact ⟨c,List.mem_of_getElem? q2,hr⟩
end

section
variable {h:Heap}
theorem lastWr_mem {r:Rid} {x:Option Root}:∀ {wr:Wr},lastWr r wr=some x→(r,x) ∈ wr
 | [],h=>by cases h
 |(q,y) :: wr,h=>by
  simp only [lastWr] at h
  split at h
  ·rename_i z hz
   injection h with h
   subst h
   exact List.mem_cons_of_mem _ (lastWr_mem hz)
  ·split at h
   ·rename_i e
    injection h with h
    subst h e
    exact List.mem_cons_self ..
   ·cases h
theorem matA_inv {ms:List (Bool × Nat)} {wr:Wr} {args outs:List AV} {i n:Nat} {res a:AV} {w':Wr} {n':Nat} (h:matA ms wr args outs i n res=some (a,w',n')) :
  (∃ k c p i1 j,res = .pp k c p i1 j∧ppRes ms wr i args outs k c p i1 j=some a∧w' = []∧n'=n)∨((∀ k c p i1 j,res ≠ .pp k c p i1 j)∧mat i n res=(a,w',n')):=by
 unfold matA at h
 split at h
 ·rename_i k c p i1 j
  split at h
  ·rename_i a' ha
   simp only [Option.some.injEq,Prod.mk.injEq] at h
   obtain ⟨rfl,rfl,rfl⟩:=h
   exact .inl ⟨k,c,p,i1,j,rfl,ha,rfl,rfl⟩
  ·cases h
 ·rename_i hne
  injection h with h
  exact .inr ⟨fun k c p i1 j e=>hne k c p i1 j e,h⟩
theorem ppRes_inv {ms:List (Bool × Nat)} {wr:Wr} {i0:Nat} {args outs:List AV} {k c:Nat} {p:Path} {i j:Nat} {a:AV} (h:ppRes ms wr i0 args outs k c p i j=some a) :
  ∃ nn r0 j0 ds sz0 xs0 cs szp ysp r sz1 n0 nl sz xs sz' ys,ms[k]? = some (true,nn)∧args[k]? = some (.ptr r0 none 0 j0)∧outs[k]? = some (.wptr ds)∧ds[c]? = some (.row sz0 xs0)∧lastWr r0 wr=some (some (.box cs))∧
   subRow sz0 xs0 [] p=some (szp,ysp)∧cs[j0 + c]? = some (.ref r none sz1 0 n0 nl)∧(r % 2=1∧r / 2 / 4096=i0)∧lastWr r wr=some (some (.row sz xs []))∧subRow sz xs [] p=some (sz',ys)∧sz=sz0∧sz'=szp∧i < ys.length∧a = .ptr r p i j:=by
 unfold ppRes at h
 split at h
 ·rename_i h1 h2 h3
  split at h
  ·rename_i h4 h5
   split at h
   ·rename_i h6 h7
    split at h
    ·rename_i h8
     split at h
     ·rename_i h9
      split at h
      ·rename_i h10
       split at h
       ·rename_i h11
        injection h with h
        exact ⟨_,_,_,_,_,_,_,_,_,_,_,_,_,_,_,_,_,h1,h2,h3,h4,h5,h6,h7,h8,h9,h10,h11.1,h11.2.1,h11.2.2,h.symm⟩
       ·cases h
      ·cases h
     ·cases h
    ·cases h
   ·cases h
  ·cases h
 ·cases h
theorem cellW_look {a b:AV} {rs:List Rid} (hc:cellW h a=some (b,rs)):∀ r ∈ rs,∃ y,look r h=some y:=by
 unfold cellW at hc
 split at hc
 ·split at hc
  ·rename_i sz xs dt hl
   split at hc
   ·simp only [Option.some.injEq,Prod.mk.injEq] at hc
    obtain ⟨rfl,rfl⟩:=hc
    simp [hl]
   ·cases hc
  ·cases hc
 all_goals first
  |(simp only [Option.some.injEq,Prod.mk.injEq] at hc
    obtain ⟨rfl,rfl⟩:=hc
    simp)
  | cases hc
theorem cellsW_look:∀ {as bs:List AV} {rs:List Rid},cellsW h as=some (bs,rs)→bs.length=as.length∧∀ r ∈ rs,∃ y,look r h=some y
 | [],bs,rs,hc=>by
  simp only [cellsW,Option.some.injEq,Prod.mk.injEq] at hc
  obtain ⟨rfl,rfl⟩:=hc
  simp
 | a :: as,bs,rs,hc=>by
  simp only [cellsW] at hc
  split at hc
  ·rename_i b r bs' rs' h1 h2
   simp only [Option.some.injEq,Prod.mk.injEq] at hc
   obtain ⟨rfl,rfl⟩:=hc
   obtain ⟨g1,g2⟩:=cellsW_look h2
   refine ⟨by simp [g1],fun q hq => ?_⟩
   rcases List.mem_append.1 hq with hq | hq
   ·exact cellW_look h1 q hq
   ·exact g2 q hq
  ·cases hc
theorem passW_look {a b:AV} {n:Nat} {rs:List Rid} (hc:passW h n a=some (b,rs)):(∀ r ∈ rs,∃ y,look r h=some y)∧∀ r j cs,a = .ptr r none 0 j→look r h=some (.box cs)→∃ ds,b = .wptr ds∧ds.length=n:=by
 unfold passW at hc
 split at hc
 ·rename_i r sz m nl
  refine ⟨cellW_look (a := .ref r none sz 0 m nl) hc,fun r j cs e=>by cases e⟩
 ·rename_i r i0 j0 sz m nl
  split at hc
  ·rename_i hl
   split at hc
   ·split at hc
    ·simp only [Option.some.injEq,Prod.mk.injEq] at hc
     obtain ⟨rfl,rfl⟩:=hc
     refine ⟨fun q hq => ?_,fun r j cs e=>by cases e⟩
     simp at hq
     subst hq
     exact ⟨_,hl⟩
    ·cases hc
   ·cases hc
  ·cases hc
 ·rename_i cs
  split at hc
  ·rename_i ds rs0 hcs
   simp only [Option.some.injEq,Prod.mk.injEq] at hc
   obtain ⟨rfl,rfl⟩:=hc
   exact ⟨(cellsW_look hcs).2,fun r j cs e=>by cases e⟩
  ·cases hc
 ·rename_i r j
  split at hc
  ·rename_i cs hl
   split at hc
   ·rename_i hle
    split at hc
    ·rename_i ds rs0 hcs
     simp only [Option.some.injEq,Prod.mk.injEq] at hc
     obtain ⟨rfl,rfl⟩:=hc
     obtain ⟨g1,g2⟩:=cellsW_look hcs
     refine ⟨fun q hq => ?_,fun r' j' cs' e hl'=>⟨ds,rfl,by rw [g1];simp;omega⟩⟩
     rcases List.mem_cons.1 hq with rfl | hq
     ·exact ⟨_,hl⟩
     ·exact g2 q hq
    ·cases hc
   ·cases hc
  ·cases hc
 ·cases hc
theorem passAll_look:∀ {as bs:List AV} {ms:List (Bool × Nat)} {rs ws:List Rid},passAll h ms as=some (bs,rs,ws)→(∀ r ∈ ws,∃ y,look r h=some y)∧
  ∀ (k:Nat) (a:AV) (n:Nat),as[k]? = some a→ms[k]? = some (true,n)→∃ b q,bs[k]? = some b∧passW h n a=some (b,q)
 | [],bs,ms,rs,ws,hp=>by
  unfold passAll at hp
  simp only [Option.some.injEq,Prod.mk.injEq] at hp
  obtain ⟨rfl,rfl,rfl⟩:=hp
  simp
 | a :: as,bs,[],rs,ws,hp=>by
  simp only [passAll] at hp
  split at hp
  ·rename_i b r bs' rs' ws' h1 h2
   simp only [Option.some.injEq,Prod.mk.injEq] at hp
   obtain ⟨rfl,rfl,rfl⟩:=hp
   exact ⟨(passAll_look h2).1,by simp⟩
  ·cases hp
 | a :: as,bs,(false,n) :: ms,rs,ws,hp=>by
  simp only [passAll] at hp
  split at hp
  ·rename_i b r bs' rs' ws' h1 h2
   simp only [Option.some.injEq,Prod.mk.injEq] at hp
   obtain ⟨rfl,rfl,rfl⟩:=hp
   obtain ⟨g1,g2⟩:=passAll_look h2
   refine ⟨g1,fun k a' n' h3 h4 => ?_⟩
   cases k with
   | zero=>simp at h4
   | succ k=>simpa using g2 k a' n' (by simpa using h3) (by simpa using h4)
  ·cases hp
 | a :: as,bs,(true,n) :: ms,rs,ws,hp=>by
  simp only [passAll] at hp
  split at hp
  ·rename_i b r bs' rs' ws' h1 h2
   simp only [Option.some.injEq,Prod.mk.injEq] at hp
   obtain ⟨rfl,rfl,rfl⟩:=hp
   obtain ⟨g1,g2⟩:=passAll_look h2
   refine ⟨fun q hq => ?_,fun k a' n' h3 h4 => ?_⟩
   ·rcases List.mem_append.1 hq with hq | hq
    ·exact (passW_look h1).1 q hq
    ·exact g1 q hq
   ·cases k with
    | zero=>
     simp at h3 h4
     subst h3 h4
     exact ⟨b,r,rfl,h1⟩
    | succ k=>simpa using g2 k a' n' (by simpa using h3) (by simpa using h4)
  ·cases hp
end
theorem isNilL_eq {α:Type} {xs:List α} (h:isNilL xs=true):xs = []:=by
 cases xs with
 | nil=>rfl
 | cons=>cases h
theorem ObjSame.eq {C:Nat→Prop} {o o':Option Obj} (h:ObjSame C o o') (hn:∀ k,¬ C k):o'=o:=by
 rcases h with h | ⟨c,c',ty,fr,rfl,rfl,h1,h2⟩
 ·exact h
 ·congr 2
  refine Array.ext_getElem? (fun k=>h2 k (hn k))
theorem ObjSame.mono {C C':Nat→Prop} {o o':Option Obj} (h:ObjSame C o o') (hc:∀ k,C k→C' k):ObjSame C' o o':=by
 rcases h with h | ⟨c,c',ty,fr,h1,h2,h3,h4⟩
 ·exact .inl h
 ·exact .inr ⟨c,c',ty,fr,h1,h2,h3,fun k hk=>h4 k (fun hk'=>hk (hc k hk'))⟩
theorem Grant.block {w:World} {S F:Nat→Prop} {a:AV} {v:Value} (ha:ArgR w S F a v) {b m:Nat} (hg:Grant F a v b m):F b:=by
 unfold Grant at hg
 split at hg
 ·exact hg
 ·obtain ⟨g,o,rfl,h1⟩:=hg
  obtain ⟨g',o',h2,h3⟩:=ha
  injection h2 with h2
  injection h2 with h2
  injection h2 with h2 _ _
  subst h2
  obtain ⟨vs,ty,fr,-,-,-,h4,-⟩:=h3
  rcases h1 with h1 | ⟨rfl,-⟩
  ·exact h1.1
  ·exact h4
 ·exact hg.2
 ·exact hg.elim
section
variable {X:Fix} {D:Nat→Prop} {s:St} {a:Act} {w:World} {i:Nat} {o:Oper}
theorem disj_iff {xs ys:List Rid} (h:disj xs ys=true):∀ r ∈ xs,r ∉ ys:=by
 intro r hr hr'
 simp only [disj,List.all_eq_true] at h
 have:=h r hr
 rw [memR_iff.2 hr'] at this
 cases this
theorem Also.nil {h:Heap} {Fr:Rid→Nat→Prop} {b:Nat} (ha:Also X h Fr [] b):X.S b:=by
 rcases ha with h | ⟨q,y,h1,-⟩
 ·exact h
 ·cases h1
set_option maxHeartbeats 1000000 in
theorem call_step {M:Modes} (hs:Sim X D s a w) (hD:¬ D i) (hd:∀ d,o.dst=some d→d < a.tmps.size) {c:Call} (ho:o.op = .call c) {f:FuncId} {args as:List AV} {rs ws:List Rid} {res:AV} {outs:List AV} {e:Eff}
  (hcal:calleeAV s c=some (f,args)) (hpass:passAll s.h (M f) args=some (as,rs,ws)) (hsnd:Snd X.P f as res outs) (he:callEff M s i f args rs ws res outs=some e) {K:Act→World→Prop} {Q:Exit→Act→World→Prop}
  (hK:∀ v w',Sim X (fun j=>D j∨j=i) (s.apply o.dst e) (a.put o.dst v) w'→K (a.put o.dst v) w'):o.wp X.P a w K Q:=by
 obtain ⟨hl,hS,ρ,Fr,m,ht⟩:=hs
 -- the callee
 unfold calleeAV at hcal
 split at hcal
 rotate_left
 ·cases hcal
 rename_i x hcx
 split at hcal
 rotate_left
 ·cases hcal
 rename_i f' caps as0 hfx has0
 simp only [Option.some.injEq,Prod.mk.injEq] at hcal
 obtain ⟨rfl,rfl⟩:=hcal
 obtain ⟨us,hus,hu1,hu2⟩:=(ev_sound ht hfx).fn_inv
 obtain ⟨hal,hag⟩:=evList_get has0
 generalize hvs:c.args.toList.map a.eval++us.toList=vs
 have hvl:vs.length=(as0++caps).length:=by rw [←hvs];simp [hal,hu1]
 have hvr:∀ (k:Nat) (x:AV) (v:Value),(as0++caps)[k]? = some x→vs[k]? = some v→VR w X.S s.h ρ x v:=by
  intro k x v h1 h2
  rw [←hvs] at h2
  rw [List.getElem?_append] at h1 h2
  simp only [List.length_map,Array.length_toList] at h2
  simp only [hal,Array.length_toList] at h1
  split at h1
  ·rename_i hlt
   rw [if_pos hlt] at h2
   obtain ⟨y,y1,y2⟩:=hag k x h1
   simp only [List.getElem?_map,y1,Option.map_some,Option.some.injEq] at h2
   subst h2
   exact ev_sound ht y2
  ·rename_i hlt
   rw [if_neg hlt] at h2
   exact .up (.up (hu2 _ x v h1 (by simpa using h2)))
 have hrunc:(execOp a.eval o).run X.P w=(callFunc f' vs.toArray).run X.P w:=by
  have:vs.toArray=c.args.map a.eval++us:=by
   rw [←hvs]
   apply Array.ext'
   simp
  rw [this]
  simp [execOp,ho,resolve,hcx,hus,Deferred.ofValue,invoke]
 -- what is handed over
 unfold callEff at he
 split at he
 rotate_left
 ·cases he
 rename_i hcond
 simp only [Bool.and_eq_true,Bool.or_eq_true,Bool.not_eq_true',Bool.or_eq_false_iff,passOK] at hcond
 obtain ⟨⟨hnd,hdj⟩,hfz⟩:=hcond
 have hwn:ws.Nodup:=nodupR_iff.1 hnd
 have hrw:=disj_iff hdj
 obtain ⟨hbl,F,hF1,hF2,hF3,hF4,hF5⟩:=passAll_sound m hpass hwn hvl hvr
 obtain ⟨hlk1,hlk2⟩:=passAll_look hpass
 have hAlso:∀ b,Also X s.h Fr rs b→b < w.heap.size∧¬ Own s.h Fr ws b:=by
  rintro b (hb | ⟨q,y,h1,h2,h3⟩)
  ·refine ⟨Nat.lt_of_lt_of_le (hS b hb).1 m.size,fun ⟨q,y,_,h2,h3⟩=>(m.foot q y b h2 h3).2 hb⟩
  ·refine ⟨(m.foot q y b h2 h3).1,fun ⟨q',y',k1,k2,k3⟩ => ?_⟩
   have:=m.disj q y q' y' b h2 k2 h3 k3
   subst this
   exact hrw q h1 k1
 have hOwnlt:∀ b,Own s.h Fr ws b→b < w.heap.size:=fun b ⟨q,y,_,h2,h3⟩=>(m.foot q y b h2 h3).1
 obtain ⟨hol,hdo⟩:=hsnd
 have hdoes:=hdo w (Also X s.h Fr rs) vs F (by rw [hvl,←hbl]) (fun b hb=>(hAlso b hb).1) hF2 (fun k b hb=>⟨hOwnlt b (hF1 k b hb),fun hb'=>(hAlso b hb').2 (hF1 k b hb)⟩) (fun k a v h1 h2=>(hF3 k a v h1 h2).1)
 -- behind the call
 split at he
 rotate_left
 ·cases he
 rename_i wr1 n1 hback
 split at he
 ·cases he
 rename_i mo mw n2 hmat
 split at he
 rotate_left
 ·cases he
 rename_i hn2
 simp only [Option.some.injEq] at he
 subst he
 have key:∀ v w',(Framed (Granted F as vs) w w'∧∃ G:Nat→Nat→Prop,(∀ k k' b,G k b→G k' b→k=k')∧
    (∀ k b,G k b→b < w'.heap.size∧(w.heap.size≤b∨(∃ k',F k' b)∧((∀ m,Granted F as vs b m)∨∃ k1 o,k=k1 + 1∧vs[k1]? = some (.pointer (some ⟨b,o,none⟩)))))∧
    ResR w' (Also X s.h Fr rs) (G 0) res v∧(∀ (k:Nat) (o:AV) (u:Value),outs[k]? = some o→vs[k]? = some u→OutR w' (Also X s.h Fr rs) (G (k + 1)) o u)∧PPres w' vs outs res v)→
   Sim X (fun j=>D j∨j=i) (s.apply o.dst { out:=mo,wr:=wr1++mw,rd:=rs++ws }) (a.put o.dst v) w':=by
  rintro v w' ⟨⟨hos,htape,hout,hsize,hframe⟩,G,hG1,hG2,hres,houts,hpp⟩
  have hgr:∀ b q,Granted F as vs b q→Own s.h Fr ws b∧(X.w0.heap.size≤b∨X.Chg b q):=by
   rintro b q ⟨k,x,u,h1,h2,h3⟩
   obtain ⟨h4,h5⟩:=hF3 k x u h1 h2
   exact ⟨hF1 k b (h3.block h4),h5 b q h3⟩
  have hres':ResR w' X.S (G 0) res v:=by
   rcases hfz with h1 | ⟨h1,-⟩
   ·have:rs = []:=isNilL_eq h1
    subst this
    exact hres.mono fun b hb=>hb.nil
   ·exact hres.noFrz h1
  have houts':∀ (k:Nat) (o:AV) (u:Value),outs[k]? = some o→vs[k]? = some u→OutR w' X.S (G (k + 1)) o u:=by
   intro k o u h1 h2
   rcases hfz with h3 | ⟨-,h3⟩
   ·have:rs = []:=isNilL_eq h3
    subst this
    exact (houts k o u h1 h2).mono fun b hb=>hb.nil
   ·rw [List.any_eq_false] at h3
    exact (houts k o u h1 h2).noFrz (by simpa using h3 o (List.mem_of_getElem? h1))
  obtain ⟨ents2,hm1,hm2⟩:∃ ents2,Made w' X.S (G 0) i n1 n2 ents2 mw∧(ResT w' X.S ents2 mo v∨∃ k c p i1 j,res = .pp k c p i1 j∧ppRes (M f') wr1 i (as0++caps) outs k c p i1 j=some mo):=by
   rcases matA_inv hmat with ⟨k,c,p,i1,j,rfl,h1,rfl,rfl⟩ | ⟨h1,h2⟩
   ·exact ⟨[],Made.nil.mono (F:=fun _=>False) (fun _ h=>h.elim), .inr ⟨k,c,p,i1,j,rfl,h1⟩⟩
   ·obtain ⟨ents2,hm1,hm2⟩:=mat_sound (i:=i) (n:=n1) hres' h1
    rw [h2] at hm1 hm2
    exact ⟨ents2,hm1, .inl hm2⟩
  have hn1:n1≤4096:=by have:=hm1.le;omega
  have hfresh:∀ r ∈ ws,∀ k,k < 4096→r≠rt i k:=fun r hr k hk e=>by
   obtain ⟨y,hy⟩:=hlk1 r hr
   rw [e,fresh_root hl hD hk] at hy
   cases hy
  have hfull:∀ b,(∀ q,Granted F as vs b q)→Free X b:=fun b hb=>by
   by_cases hlt:X.w0.heap.size≤b
   ·exact .inl hlt
   ·exact .inr fun q=>((hgr b q (hb q)).2).resolve_left hlt
  have hcross:∀ k b,G k b→∀ (j:Nat) (a':AV) (n:Nat),(as0++caps)[j]? = some a'→(M f')[j]? = some (true,n)→¬ Rest w s.h ρ Fr a' b:=fun k b h1 j a' n h2 h3 hr=>by
   rcases (hG2 _ b h1).2 with h4 | ⟨⟨k',hk'⟩,-⟩
   ·have:=hOwnlt b (passAll_rest hpass j a' n h2 h3 b hr)
    omega
   ·exact hF4 k' b hk' j a' n h2 h3 hr
  obtain ⟨ents1,hb1⟩:=backAll_sound (Full:=Free X) (w':=w') (S':=X.S) m hn1 (Gs:=fun k=>G (k + 1)) hpass hwn hback hfresh hvl hvr (fun k k' b h1 h2=>by have:=hG1 _ _ b h1 h2;omega) houts'
   (fun k b u h1 h2 h3=>by
    rcases (hG2 _ b h1).2 with h4 | ⟨-,h4 | ⟨k1,p,h4,h5⟩⟩
    ·exact .inl (Nat.le_trans m.size h4)
    ·exact hfull b h4
    ·have:k=k1:=by omega
     subst this
     rw [h2] at h5
     injection h5 with h5
     exact absurd h5 (h3 p))
   (fun k r j cs g p size h1 h2 h3 h4=>by
    obtain ⟨b,q,h5,h6⟩:=hlk2 k _ size h1 h2
    obtain ⟨ds,rfl,h7⟩:=(passW_look h6).2 r j cs rfl h3
    have hkv:k < vs.length:=by rw [hvl];exact lt_len h1
    have hvk:=hvr k _ vs[k] h1 (List.getElem?_eq_getElem hkv)
    obtain ⟨g',p',h8,h9⟩:=box_root hvk h3
    rw [h4] at h8
    injection h8 with h8 h8'
    injection h8 with h8
    subst h8 h8'
    have hak:=(hF3 k _ vs[k] h5 (List.getElem?_eq_getElem hkv)).1
    obtain ⟨g2,o2,h10,h11⟩:=hak
    rw [h9] at h10
    injection h10 with h10
    injection h10 with h10
    injection h10 with h10 h10' _
    subst h10 h10'
    obtain ⟨vs0,ty,fr,m1,m2,m3,m4,m5⟩:=h11
    have hng:∀ q,Granted F as vs g q→p + j≤q∧q < p + j + size:=by
     rintro q ⟨k',x,u,g1,g2,g3⟩
     have hblk:=g3.block (hF3 k' x u g1 g2).1
     have:=hF2 k k' g m4 hblk
     subst this
     rw [h5] at g1
     injection g1 with g1
     subst g1
     rw [List.getElem?_eq_getElem hkv] at g2
     injection g2 with g2
     subst g2
     obtain ⟨g',o',q1,q2⟩:=g3
     rw [h9] at q1
     injection q1 with q1
     injection q1 with q1
     injection q1 with q1 q1' _
     subst q1 q1'
     rcases q2 with ⟨-,q2⟩ | ⟨-,q3,q4⟩
     ·exact absurd rfl q2
     ·rw [h7] at q4
      exact ⟨q3,q4⟩
    rcases hframe g (lt_of_heap m1) with h12 | ⟨c0,c',ty',fr',h12,h13,h14,h15⟩
    ·exact ⟨vs0,vs0,ty,fr,m1,h12.trans m1,rfl,fun q _=>rfl⟩
    ·exact ⟨c0,c',ty',fr',h12,h13,h14,fun q hq=>h15 q (fun hq'=>hq (hng q hq'))⟩)
   (fun k b h1=>hcross _ b h1)
   (fun j a' n h2 h3 b hr=>⟨(hframe b (hOwnlt b (passAll_rest hpass j a' n h2 h3 b hr))).eq (fun q ⟨k,x,u,g1,g2,g3⟩=>hF4 k b (g3.block (hF3 k x u g1 g2).1) j a' n h2 h3 hr),(hF5 j a' n h2 h3 b hr).2⟩)
  have hb2:=Made.back (X:=X) (h:=s.h) (ρ:=ρ) (w:=w) (S':=X.S) (Full:=Free X) hm1 (fun b hb=>by
   rcases (hG2 _ b hb).2 with h4 | ⟨-,h4 | ⟨k1,p,h4,h5⟩⟩
   ·exact .inl (Nat.le_trans m.size h4)
   ·exact hfull b h4
   ·omega)
  have hbk:=hb1.append hb2 (by simpa using hwn) (by simpa using hfresh) (by omega) (by
   rintro b (⟨k,h1⟩ | ⟨j,a',n,h1,h3,h4⟩) h2
   ·have:=hG1 _ _ b h1 h2;omega
   ·exact hcross 0 b h2 j a' n h1 h3 h4)
  rw [List.append_nil] at hbk
  refine Sim.back (e:={ out:=mo,wr:=wr1++mw,rd:=rs++ws }) hl hS m ht hD hbk (by omega) hos htape hout hsize ?_ ?_ ?_ ?_ hd ?_
  ·intro b hb hnb
   exact (hframe b hb).eq (fun q hq=>hnb (hgr b q hq).1)
  ·intro b hb
   refine (hframe b (Nat.lt_of_lt_of_le hb m.size)).mono (fun q hq => ?_)
   rcases (hgr b q hq).2 with h | h
   ·omega
   ·exact h
  ·rintro b ((⟨k,hb⟩ | ⟨j,a',n,h1,h3,h4⟩) | hb)
   ·obtain ⟨h1,h2⟩:=hG2 _ b hb
    exact ⟨h1,h2.imp id fun ⟨⟨k',hk'⟩,_⟩=>hF1 k' b hk'⟩
   ·have:=passAll_rest hpass j a' n h1 h3 b h4
    exact ⟨Nat.lt_of_lt_of_le (hOwnlt b this) hsize, .inr this⟩
   ·obtain ⟨h1,h2⟩:=hG2 _ b hb
    exact ⟨h1,h2.imp id fun ⟨⟨k',hk'⟩,_⟩=>hF1 k' b hk'⟩
  ·exact fun b hb=>hb
  ·rcases hm2 with ((h | ⟨x,hx,hx1⟩ | ⟨x,hx,hx1⟩) | ⟨as',vs',h1,h2,h3,h4⟩) | ⟨k,c,p,i1,j,hrp,hp1⟩
   ·exact .inl (.inl (h.mono fun e he=>List.mem_append.2 (.inr he)))
   ·exact .inl (.inr (.inl ⟨x,List.mem_append.2 (.inr hx),hx1⟩))
   ·exact .inl (.inr (.inr ⟨x,List.mem_append.2 (.inr hx),hx1⟩))
   rotate_left
   ·obtain ⟨nn,r0,j0,ds,sz0,xs0,cs,szp,ysp,r,sz1,n0,nl,sz,xs,sz',ys,p1,p2,p3,p4,p5,p6,p7,p8,p9,p10,rfl,rfl,p11,rfl⟩:=ppRes_inv hp1
    rw [hrp] at hpp
    obtain ⟨g0,o0,nq,g,sz0',szq,bc,bc',ds',xs',ys',r1,r2,r3,r4,r5,r6,r7,rfl⟩:=hpp
    rw [p3] at r2
    injection r2 with r2
    injection r2 with r2
    subst r2
    rw [p4] at r3
    injection r3 with r3
    injection r3 with r3 r3'
    subst r3 r3'
    rw [p6] at r4
    simp only [Option.some.injEq,Prod.mk.injEq] at r4
    obtain ⟨rfl,rfl⟩:=r4
    obtain ⟨b0,q0,-,t1⟩:=hlk2 k _ nn p2 p1
    have hbox:∃ cs0,look r0 s.h=some (.box cs0):=by
     simp only [passW] at t1
     split at t1
     ·exact ⟨_,by assumption⟩
     ·cases t1
    obtain ⟨cs0,hbox⟩:=hbox
    rcases hb1.sub _ (lastWr_mem p5) with ⟨t2,-⟩ | ⟨e,he1,t2⟩
    ·cases t2
    simp only [Prod.mk.injEq,Option.some.injEq] at t2
    obtain ⟨rfl,t2⟩:=t2
    rcases hb1.kind e he1 with ⟨⟨m1,-,t3,t4⟩,-⟩ | ⟨-,t3 | t3 | t3⟩
    ·rw [t4,fresh_root hl hD (by omega)] at hbox
     cases hbox
    ·obtain ⟨-,_,_,_,_,-,t4,-⟩:=t3
     rw [t4] at t2;cases t2
    rotate_left
    ·obtain ⟨-,_,_,_,_,_,_,_,_,-,-,-,t4,-⟩:=t3
     rw [t4] at t2;cases t2
    obtain ⟨cs1,cs2,g2,o2,t4,t5,t6,-,-,-,vs',ty,fr,t7,-,-,t8⟩:=t3
    rw [t5] at t2
    injection t2 with t2
    subst t2
    obtain ⟨u,t9,t10⟩:=t8 _ _ p7
    have hkv:k < vs.length:=by rw [hvl];exact lt_len p2
    obtain ⟨g3,o3,t11,t12⟩:=box_root (hvr k _ vs[k] p2 (List.getElem?_eq_getElem hkv)) hbox
    rw [t6] at t11
    simp only [Prod.mk.injEq,Option.some.injEq] at t11
    obtain ⟨rfl,rfl⟩:=t11
    rw [List.getElem?_eq_getElem hkv,t12] at r1
    simp only [Option.some.injEq,Value.pointer.injEq,Addr.mk.injEq] at r1
    obtain ⟨rfl,rfl,-⟩:=r1
    rw [cell_of_heap t7,Nat.add_assoc,t9] at r5
    injection r5 with r5
    subst r5
    rcases t10 with (t10 | ⟨e',he',sz2,xs2,t13,t14,t15,-⟩) | ⟨t10,-⟩
    ·cases t10
    ·injection t14 with t14 _ _ _ _ _
     subst t14
     have t16:=lastWr_nodup hb1.keys (hb1.sup e' he')
     rw [p9] at t16
     simp only [Option.some.injEq] at t16
     rw [←t16] at t13
     injection t15 with t15 _ t15'
     have t17:bc.1=e'.bc.1:=by
      cases h1:bc.1<;>cases h2:e'.bc.1<;>rw [h1,h2] at t15<;>simp [addrOf] at t15<;>simp [t15]
     have t18:bc=e'.bc:=Prod.ext t17 t15'
     rw [t18] at r6
     exact .inl (.inr (.inr ⟨e',List.mem_append.2 (.inl he'),_,_,i1,j,g,_,_,p,bc',t16.symm,rfl,p10,r6,r7,rfl⟩))
    ·have t11:LabR D r:=hl r (.inr ⟨_,_,t4, .inr (by
      simp only [ridsBox,List.mem_flatMap]
      exact ⟨_,List.mem_of_getElem? t10,by simp [rid2,rid1]⟩)⟩)
     have t13:r=rt i (r / 2 % 4096):=by
      obtain ⟨p81,p82⟩:=p8
      have p83:=Nat.div_add_mod (r / 2) 4096
      rw [p82] at p83
      show r=2 * (4096 * i + r / 2 % 4096) + 1
      rw [p83]
      have p84:(r:Nat)=2 * (r / 2) + r % 2:=(Nat.div_add_mod r 2).symm
      rw [p81] at p84
      exact p84
     rw [t13] at t11
     exact absurd t11 (not_lab hD (Nat.mod_lt _ (by decide)))
   ·exact .inr ⟨as',vs',h1,h2,h3,fun k x hk=>(h4 k x hk).mono fun e he=>List.mem_append.2 (.inr he)⟩
 -- the machine
 unfold Oper.wp
 rw [hrunc]
 rcases hdoes with ⟨h1,h2⟩ | ⟨v,w1,h1,h2⟩
 ·rw [h1]
  simp only [Oper.upon]
  refine Calls.mono h2 (fun e w'' he => ?_)
  obtain ⟨v,rfl,hv⟩:=he
  exact hK v w'' (key v w'' hv)
 ·rw [h1]
  simp only [Oper.upon]
  exact hK v w1 (key v w1 h2)
end

section
variable {X:Fix} {D:Nat→Prop} {s:St} {a:Act} {w:World} {i:Nat} {o:Oper} {T:Types} {M:Modes} {C:FuncId→List AV→AV→List AV→Prop}
def Takes (T:Types) (M:Modes) (C:FuncId→List AV→AV→List AV→Prop) (s:St) (i:Nat) (o:Oper) (e:Eff):Prop:=
 (isCall o=false∧aop T s i o=some e∧e.ok)∨
 ∃ c f args as rs ws res outs,isCall o=true∧o.op = .call c∧calleeAV s c=some (f,args)∧passAll s.h (M f) args=some (as,rs,ws)∧C f as res outs∧callEff M s i f args rs ws res outs=some e
theorem aexec_takes {k:Eff→Prop} (h:aexec T M C s i o k):∃ e,Takes T M C s i o e∧k e:=by
 unfold aexec at h
 split at h
 ·rename_i hc
  split at h
  ·rename_i c ho
   split at h
   ·rename_i f args hcal
    split at h
    ·rename_i as rs ws hp
     obtain ⟨res,outs,h1,h2⟩:=h
     split at h2
     ·rename_i e he
      exact ⟨e, .inr ⟨c,f,args,as,rs,ws,res,outs,hc,ho,hcal,hp,h1,he⟩,h2.2⟩
     ·exact h2.elim
    ·exact h.elim
   ·exact h.elim
  ·exact h.elim
 ·rename_i hc
  split at h
  ·rename_i e he
   exact ⟨e, .inl ⟨by simpa using hc,he,h.1⟩,h.2⟩
  ·exact h.elim
def Sound (P:Program) (C:FuncId→List AV→AV→List AV→Prop):Prop:=∀ f as res outs,C f as res outs→Snd P f as res outs
theorem takes_step (hT:TOk X.P T) (hC:Sound X.P C) (hs:Sim X D s a w) (hD:¬ D i) (hd:∀ d,o.dst=some d→d < a.tmps.size) {e:Eff} (h:Takes T M C s i o e) {K:Act→World→Prop} {Q:Exit→Act→World→Prop}
  (hK:∀ v w',Sim X (fun j=>D j∨j=i) (s.apply o.dst e) (a.put o.dst v) w'→K (a.put o.dst v) w'):o.wp X.P a w K Q:=by
 rcases h with ⟨h1,h2,h3⟩ | ⟨c,f,args,as,rs,ws,res,outs,h1,h2,h3,h4,h5,h6⟩
 ·obtain ⟨n,v,w',k1,k2,k3⟩:=aop_done hT hs hD hd h2 h3
  unfold Oper.wp
  rw [k1]
  rcases k2 with rfl | ⟨rfl,rfl⟩
  ·exact hK v w' k3
  ·exact hK Go.undef w' k3
 ·exact call_step hs hD hd h2 h3 h4 (hC f as res outs h5) h6 hK
theorem Lab.mono {D':Nat→Prop} (h:Lab D s) (hD:∀ j,D j→D' j):Lab D' s:=fun r hr=>(h r hr).mono hD
theorem Sim.mono {D':Nat→Prop} (h:Sim X D s a w) (hD:∀ j,D j→D' j):Sim X D' s a w:=⟨h.1.mono hD,h.2⟩
theorem Sim.skip {dst:Option Tmp} (hs:Sim X D s a w) (hd:∀ d,dst=some d→d < a.tmps.size):Sim X D (s.skip dst) (a.put dst Go.undef) w:=by
 obtain ⟨hl,hS,ρ,Fr,m,ht⟩:=hs
 refine ⟨?_,hS,ρ,Fr,m,ht.put (fun _ _ _=>rfl) (fun k v _ r _=>Compat.still rfl rfl (fun _ _ _=>rfl)) hd (fun _ _ => .up (.up (.fv .undef)))⟩
 rintro r (⟨k,u,hk,hr⟩ | ⟨q,x,hq,hr⟩)
 ·simp only [St.skip] at hk
  cases hdst:dst with
  | none=>rw [hdst] at hk;exact hl r (.inl ⟨k,u,hk,hr⟩)
  | some d=>
   rw [hdst] at hk
   simp only [putT,look_put] at hk
   split at hk
   ·injection hk with hk
    subst hk
    simp [rids,rid2,rid1] at hr
   ·exact hl r (.inl ⟨k,u,hk,hr⟩)
 ·exact hl r (.inr ⟨q,x,hq,hr⟩)
theorem guard_sound {all:Array Oper} {j:Nat} (hs:Sim X D s a w) {x:AV} (hg:guardAV all j s=some x):(∀ b,x = .bool b→yielded all a.tmps j=some b)∧(x = .undef→yielded all a.tmps j=none):=by
 obtain ⟨hl,hS,ρ,Fr,m,ht⟩:=hs
 unfold guardAV at hg
 split at hg
 ·rename_i d hd
  obtain ⟨h1,h2⟩:=ht d x hg
  have h3:a.tmps[d]? = some (a.tmps.getD d Go.undef):=by simp [h1]
  refine ⟨fun b hb => ?_,fun hb => ?_⟩
  ·subst hb
   simp only [yielded,hd,Option.bind_some,h3,h2.bool_inv]
  ·subst hb
   simp only [yielded,hd,Option.bind_some,h3,h2.undef_inv]
   rfl
 ·cases hg
theorem put_size {dst:Option Tmp} {v:Value}:(a.put dst v).tmps.size=a.tmps.size:=by
 cases dst<;>simp [Act.put]
theorem put_defers {dst:Option Tmp} {v:Value}:(a.put dst v).defers=a.defers:=by
 cases dst<;>simp [Act.put]
def Kept (p:Nat→Bool) (a a':Act):Prop:=a'.tmps.size=a.tmps.size∧a'.defers=a.defers∧∀ k,p k=true→a'.tmps.getD k Go.undef=a.tmps.getD k Go.undef
theorem Kept.refl {p:Nat→Bool} {a:Act}:Kept p a a:=⟨rfl,rfl,fun _ _=>rfl⟩
theorem Kept.put {p:Nat→Bool} {a a':Act} {dst:Option Tmp} {v:Value} (h:Kept p a a') (hd:∀ d,dst=some d→p d=false):Kept p a (a'.put dst v):=by
 refine ⟨put_size.trans h.1,put_defers.trans h.2.1,fun k hk => ?_⟩
 rw [←h.2.2 k hk]
 cases dst with
 | none=>rfl
 | some d=>
  have hne:d≠k:=fun e=>by
   have:=hd d rfl
   rw [e,hk] at this
   cases this
  simp [Act.put,Array.getD_eq_getD_getElem?,Array.getElem?_setIfInBounds,hne]
theorem aops_plain (hT:TOk X.P T) (hC:Sound X.P C) {all:Array Oper} {p:Nat→Bool} {Q:St→Log→Prop} {Qw:Exit→Act→World→Prop} (hQ:∀ s l a' w',Q s l→Sim X (fun _=>True) s a' w'→Kept p a a'→Qw .normal a' w') :
  ∀ (os:List Oper) (i:Nat) (s:St) (l:Log) (a':Act) (w:World),aops T M C all os i s l Q→Sim X (fun j=>j < i) s a' w→Kept p a a'→(∀ o ∈ os,∀ d,o.dst=some d→d < a.tmps.size∧p d=false)→wpList X.P all Qw os a' w
 | [],i,s,l,a',w,h,hs,h1,_=>hQ s l a' w h (hs.mono fun _ _=>trivial) h1
 | o :: os,i,s,l,a',w,h,hs,h1,hd=>by
  have hd0:∀ d,o.dst=some d→d < a'.tmps.size:=fun d hd'=>by rw [h1.1];exact (hd o (by simp) d hd').1
  have hd2:∀ d,o.dst=some d→p d=false:=fun d hd'=>(hd o (by simp) d hd').2
  have hd1:∀ o ∈ os,∀ d,o.dst=some d→d < a.tmps.size∧p d=false:=fun o ho=>hd o (by simp [ho])
  have hdo:∀ {s:St},Sim X (fun j=>j < i) s a' w→aexec T M C s i o (fun e=>aops T M C all os (i + 1) (s.apply o.dst e) ((i,e.rd,e.wr.map (·.1)) :: l) Q)→o.wp X.P a' w (wpList X.P all Qw os) Qw:=by
   intro s hs h
   obtain ⟨e,h3,h4⟩:=aexec_takes h
   exact takes_step hT hC hs (Nat.lt_irrefl i) hd0 h3 (fun v w' hs'=>aops_plain hT hC hQ os (i + 1) _ _ _ w' h4 (hs'.mono fun j hj=>by omega) (h1.put hd2) hd1)
  have hskip:∀ {s:St},Sim X (fun j=>j < i) s a' w→aops T M C all os (i + 1) (s.skip o.dst) l Q→wpList X.P all Qw os (a'.put o.dst Go.undef) w:=by
   intro s hs h
   exact aops_plain hT hC hQ os (i + 1) _ _ _ w h ((hs.skip hd0).mono fun j hj=>by omega) (h1.put hd2) hd1
  unfold wpList
  unfold aops at h
  split at h
  ·rename_i hg
   have:Region.wanted o (yielded all a'.tmps)=true:=by simp [Region.wanted,hg]
   rw [if_pos this]
   exact .inl (hdo hs h)
  ·rename_i j want hg
   split at h
   ·rename_i b hgv
    have hy:=(guard_sound hs hgv).1 b rfl
    by_cases hb:b=want
    ·have:Region.wanted o (yielded all a'.tmps)=true:=by simp [Region.wanted,hg,hy,hb]
     rw [if_pos this]
     exact .inl (hdo hs (h.1 hb))
    ·have:¬ Region.wanted o (yielded all a'.tmps)=true:=by simp [Region.wanted,hg,hy,hb]
     rw [if_neg this]
     exact hskip hs (h.2 (by cases b<;>cases want<;>simp_all))
   ·rename_i hgv
    have hy:=(guard_sound hs hgv).2 rfl
    have:¬ Region.wanted o (yielded all a'.tmps)=true:=by simp [Region.wanted,hg,hy]
    rw [if_neg this]
    exact hskip hs h
   ·exact h.elim
end

def Ag (h h':Heap) (rs:List Rid):Prop:=∀ r ∈ rs,look r h'=look r h
section
variable {h h':Heap}
theorem Ag.left {rs qs:List Rid} (ha:Ag h h' (rs++qs)):Ag h h' rs:=fun r hr=>ha r (by simp [hr])
theorem Ag.right {rs qs:List Rid} (ha:Ag h h' (rs++qs)):Ag h h' qs:=fun r hr=>ha r (by simp [hr])
theorem Ag.head {r:Rid} {rs:List Rid} (ha:Ag h h' (r :: rs)):look r h'=look r h:=ha r (by simp)
theorem Ag.tail {r:Rid} {rs:List Rid} (ha:Ag h h' (r :: rs)):Ag h h' rs:=fun q hq=>ha q (by simp [hq])
theorem getRow_ag {r:Rid} (ha:look r h'=look r h) (p:Path):getRow h' r p=getRow h r p:=by simp only [getRow,ha]
theorem getChunk_ag {r:Rid} (ha:look r h'=look r h) (p:Path) (i:Nat):getChunk h' r p i=getChunk h r p i:=by simp only [getChunk,ha]
theorem intake_ag {a b:AV} {rs:List Rid} (hi:intake h a=some (b,rs)) (ha:Ag h h' rs):intake h' a=some (b,rs):=by
 unfold intake at hi
 split at hi
 ·simpa [intake] using hi
 ·rename_i r sz n nl
  have hr:rs = [r]:=by
   split at hi
   ·split at hi
    ·simp only [Option.some.injEq,Prod.mk.injEq] at hi;exact hi.2.symm
    ·split at hi
     ·simp only [Option.some.injEq,Prod.mk.injEq] at hi;exact hi.2.symm
     ·cases hi
   ·cases hi
  subst hr
  simp only [intake,ha.head]
  exact hi
 ·simpa [intake] using hi
 ·simpa [intake] using hi
 ·simpa [intake] using hi
 ·cases hi
theorem intakes_ag:∀ {as bs:List AV} {rs:List Rid},intakes h as=some (bs,rs)→Ag h h' rs→intakes h' as=some (bs,rs)
 | [],bs,rs,hi,_=>by simpa [intakes] using hi
 | a :: as,bs,rs,hi,ha=>by
  simp only [intakes] at hi
  split at hi
  ·rename_i b q bs' rs' h1 h2
   simp only [Option.some.injEq,Prod.mk.injEq] at hi
   obtain ⟨rfl,rfl⟩:=hi
   simp only [intakes,intake_ag h1 ha.left,intakes_ag h2 ha.right]
  ·cases hi
theorem intakeAt_ag {r:Rid} {i j:Nat} {a b:AV} {rs:List Rid} (hi:intakeAt h r i j a=some (b,rs)) (hr:look r h'=look r h) (ha:Ag h h' rs):intakeAt h' r i j a=some (b,rs):=by
 unfold intakeAt at hi ⊢
 split at hi
 ·simp only [getRow_ag hr]
  exact hi
 ·simp only [getRow_ag hr]
  exact hi
 ·exact intake_ag hi ha
theorem intakesAt_ag {r:Rid} {i:Nat} (hr:look r h'=look r h):∀ {as bs:List AV} {j:Nat} {rs:List Rid},intakesAt h r i j as=some (bs,rs)→Ag h h' rs→intakesAt h' r i j as=some (bs,rs)
 | [],bs,j,rs,hi,_=>by simpa [intakesAt] using hi
 | a :: as,bs,j,rs,hi,ha=>by
  simp only [intakesAt] at hi
  split at hi
  ·rename_i b q bs' rs' h1 h2
   simp only [Option.some.injEq,Prod.mk.injEq] at hi
   obtain ⟨rfl,rfl⟩:=hi
   simp only [intakesAt,intakeAt_ag h1 hr ha.left,intakesAt_ag hr h2 ha.right]
  ·cases hi
theorem elems_ag {m:Nat} {a:AV} {x:List (List AV)} {rs:List Rid} (hi:elems h m a=some (x,rs)) (ha:Ag h h' rs):elems h' m a=some (x,rs):=by
 unfold elems at hi ⊢
 split at hi
 ·exact hi
 ·rename_i r p sz off n nl
  have hr:rs = [r]:=by
   split at hi
   ·split at hi
    ·simp only [Option.some.injEq,Prod.mk.injEq] at hi;exact hi.2.symm
    ·cases hi
   ·cases hi
  subst hr
  simp only [getRow_ag ha.head]
  exact hi
 ·cases hi
theorem elemsTaken_ag {m:Nat} {a:AV} {x:List (List AV)} {rs:List Rid} (hi:elemsTaken h m a=some (x,rs)) (ha:Ag h h' rs):elemsTaken h' m a=some (x,rs):=by
 unfold elemsTaken at hi ⊢
 split at hi
 ·exact hi
 ·rename_i r sz n nl
  have hr:rs = [r]:=by
   split at hi
   ·split at hi
    ·simp only [Option.some.injEq,Prod.mk.injEq] at hi;exact hi.2.symm
    ·cases hi
   ·cases hi
  subst hr
  simp only [ha.head]
  exact hi
 ·cases hi
theorem source_ag {te:TI} {a:AV} {ys:List (List AV)} {rd tk:List Rid} (hi:source h te a=some (ys,rd,tk)) (ha:Ag h h' rd):source h' te a=some (ys,rd,tk):=by
 unfold source at hi ⊢
 split at hi
 ·rename_i hf
  rw [if_pos hf]
  simp only [Option.map_eq_some_iff,Prod.exists,Prod.mk.injEq] at hi ⊢
  obtain ⟨ys',rs,h1,rfl,rfl,rfl⟩:=hi
  exact ⟨ys',rs,elems_ag h1 ha,rfl,rfl,rfl⟩
 ·rename_i hf
  rw [if_neg hf]
  simp only [Option.map_eq_some_iff,Prod.exists,Prod.mk.injEq] at hi ⊢
  obtain ⟨ys',rs,h1,rfl,rfl,rfl⟩:=hi
  exact ⟨ys',rs,elemsTaken_ag h1 ha,rfl,rfl,rfl⟩
theorem appendRes_rd {i sz:Nat} {zs:List (List AV)} {nl:Option Bool} {ok:Prop} {wr:Wr} {rd:List Rid} {e:Eff} (h:appendRes i sz zs nl ok wr rd=some e):e.rd=rd:=by
 unfold appendRes at h
 split at h
 ·injection h with h;rw [←h]
 ·cases h
theorem copySrc_ag {a:AV} {x:List (List AV)} {rs:List Rid} (hi:copySrc h a=some (x,rs)) (ha:Ag h h' rs):copySrc h' a=some (x,rs):=by
 unfold copySrc at hi ⊢
 split at hi
 ·exact hi
 ·rename_i hne
  exact elems_ag hi ha
theorem copyAV_ag {T:Types} {t:TypeId} {x y:AV} {e:Eff} (hi:copyAV T h t x y=some e) (ha:Ag h h' e.rd):copyAV T h' t x y=some e:=by
 unfold copyAV at hi ⊢
 split at hi
 ·split at hi
  ·split at hi
   ·rename_i hz
    split at hi
    ·rename_i ys rd hs
     have hi0:=hi
     unfold copyInto at hi
     split at hi
     ·rename_i r sz off n nl
      split at hi
      ·rename_i sz' xs dt hl
       split at hi
       ·injection hi with hi
        subst hi
        rw [if_pos hz,copySrc_ag hs ha.tail]
        simp only [copyInto,ha.head]
        exact hi0
       ·cases hi
      ·cases hi
     ·cases hi
    ·cases hi
   ·cases hi
  ·cases hi
 ·cases hi
theorem appendAV_ag {T:Types} {i:Nat} {t u:TypeId} {x y:AV} {e:Eff} (hi:appendAV T h i t u x y=some e) (ha:Ag h h' e.rd):appendAV T h' i t u x y=some e:=by
 unfold appendAV at hi ⊢
 split at hi
 ·rename_i el _ _ el2 _ _ hti hui
  split at hi
  ·rename_i te hte
   split at hi
   ·rename_i ys rd tk hs
    unfold appendTo at hi
    split at hi
    ·have hrd:=appendRes_rd hi
     rw [hrd] at ha
     simp only [source_ag hs ha,appendTo]
     exact hi
    ·rename_i r sz0 n nl
     split at hi
     ·rename_i sz' xs dt hl
      split at hi
      ·rename_i hc
       have hrd:=appendRes_rd hi
       rw [hrd] at ha
       simp only [source_ag hs ha.tail,appendTo,ha.head,hl,if_pos hc]
       exact hi
      ·cases hi
     ·cases hi
    ·rename_i r i' j' sz0 n nl
     split at hi
     ·rename_i szr xs0 dt hl
      split at hi
      ·rename_i sz' xs hsub
       split at hi
       ·rename_i hc
        split at hi
        ·rename_i c0 hc0
         have hrd:=appendRes_rd hi
         rw [hrd] at ha
         simp only [source_ag hs ha.tail,appendTo,ha.head,hl,hsub,if_pos hc,hc0]
         exact hi
        ·cases hi
       ·cases hi
      ·cases hi
     ·cases hi
    ·cases hi
   ·cases hi
  ·cases hi
 ·cases hi
theorem loadAV_ag {T:Types} {t:TypeId} {x:AV} {e:Eff} (hi:loadAV T h t x=some e) (ha:Ag h h' e.rd):loadAV T h' t x=some e:=by
 unfold loadAV at hi ⊢
 split at hi
 ·rename_i ti r p i j hti
  have hr:look r h'=look r h:=by
   split at hi
   ·split at hi
    ·split at hi
     ·split at hi
      ·injection hi with hi;rw [←hi] at ha;exact ha.head
      ·cases hi
     ·cases hi
    ·cases hi
   ·cases hi
  simp only [getChunk_ag hr]
  exact hi
 ·exact hi
 ·cases hi
theorem storeAV_ag {T:Types} {t:TypeId} {x v:AV} {e:Eff} (hi:storeAV T h t x v=some e) (ha:Ag h h' e.rd):storeAV T h' t x v=some e:=by
 unfold storeAV at hi ⊢
 split at hi
 ·rename_i ti r p i j hti
  split at hi
  ·rename_i cs hl
   split at hi
   ·split at hi
    ·rename_i hc
     injection hi with hi
     subst hi
     simp only [ha.head,hl,if_pos hc]
    ·cases hi
   ·cases hi
  ·rename_i sz xs dt hl
   split at hi
   ·rename_i hc1
    split at hi
    ·split at hi
     ·rename_i c hc
      split at hi
      ·rename_i hc2
       split at hi
       ·rename_i vs rs hin
        split at hi
        ·cases hi
        ·rename_i hrs
         injection hi with hi
         subst hi
         simp only [ha.head,hl,if_pos hc1,hc,if_pos hc2,intakesAt_ag ha.head hin ha.tail,if_neg hrs]
       ·cases hi
      ·cases hi
     ·cases hi
    ·rename_i q
     split at hi
     ·rename_i sz1 ys hsub
      split at hi
      ·rename_i c hc
       split at hi
       ·rename_i hc2
        split at hi
        ·rename_i vs hin
         injection hi with hi
         subst hi
         simp only [ha.head,hl,if_pos hc1,hsub,hc,if_pos hc2,intakes_ag (h':=h') hin (fun r hr=>by cases hr)]
        ·cases hi
       ·cases hi
      ·cases hi
     ·cases hi
   ·cases hi
  ·cases hi
 ·cases hi
theorem indexAddrAV_ag {T:Types} {t:TypeId} {x ix:AV} {e:Eff} (hi:indexAddrAV T h t x ix=some e) (ha:Ag h h' e.rd):indexAddrAV T h' t x ix=some e:=by
 unfold indexAddrAV at hi ⊢
 split at hi
 ·exact hi
 ·rename_i r p sz off n nl k i hti
  have hr:look r h'=look r h:=by
   split at hi
   ·split at hi
    ·injection hi with hi;rw [←hi] at ha;exact ha.head
    ·cases hi
   ·cases hi
  simp only [getRow_ag hr]
  exact hi
 ·exact hi
 ·cases hi
theorem fillSlice_ag {n:Nat}:∀ {ps:List (Nat × AV)} {xs ys:List (List AV)} {rs:List Rid},fillSlice h n xs ps=some (ys,rs)→Ag h h' rs→fillSlice h' n xs ps=some (ys,rs)
 | [],xs,ys,rs,hi,_=>by simpa [fillSlice] using hi
 |(i,a) :: ps,xs,ys,rs,hi,ha=>by
  simp only [fillSlice] at hi
  split at hi
  ·rename_i cs q hin
   split at hi
   ·rename_i hc
    split at hi
    ·rename_i ys' rs' hfs
     simp only [Option.some.injEq,Prod.mk.injEq] at hi
     obtain ⟨rfl,rfl⟩:=hi
     simp only [fillSlice,intakes_ag hin ha.left,if_pos hc,fillSlice_ag hfs ha.right]
    ·cases hi
   ·cases hi
  ·cases hi
theorem convertAV_ag {T:Types} {i:Nat} {t u:TypeId} {x:AV} {e:Eff} (hi:convertAV T h i t u x=some e) (ha:Ag h h' e.rd):convertAV T h' i t u x=some e:=by
 unfold convertAV at hi ⊢
 split at hi
 ·exact hi
 ·exact hi
 ·split at hi
  ·split at hi
   ·split at hi
    ·rename_i ys rs he
     split at hi
     ·rename_i l hl
      injection hi with hi
      subst hi
      simp only [elems_ag he ha,hl]
     ·cases hi
    ·cases hi
   ·cases hi
  ·cases hi
theorem cellR_ag {a b:AV} {rs:List Rid} (hi:cellR h a=some (b,rs)) (ha:Ag h h' rs):cellR h' a=some (b,rs):=by
 unfold cellR at hi ⊢
 split at hi
 ·exact hi
 ·rename_i r p sz off n nl
  have hr:rs = [r]:=by
   split at hi
   ·split at hi
    ·simp only [Option.some.injEq,Prod.mk.injEq] at hi;exact hi.2.symm
    ·cases hi
   ·cases hi
  subst hr
  simp only [getRow_ag ha.head]
  exact hi
 all_goals first
  | cases hi;done
  | skip
 ·exact hi
 ·exact hi
theorem cellsR_ag:∀ {as bs:List AV} {rs:List Rid},cellsR h as=some (bs,rs)→Ag h h' rs→cellsR h' as=some (bs,rs)
 | [],bs,rs,hi,_=>by simpa [cellsR] using hi
 | a :: as,bs,rs,hi,ha=>by
  simp only [cellsR] at hi
  split at hi
  ·rename_i b q bs' rs' h1 h2
   simp only [Option.some.injEq,Prod.mk.injEq] at hi
   obtain ⟨rfl,rfl⟩:=hi
   simp only [cellsR,cellR_ag h1 ha.left,cellsR_ag h2 ha.right]
  ·cases hi
end

section
variable {h h':Heap}
theorem capR_ag {a b:AV} {rs:List Rid} (hi:capR h a=some (b,rs)) (ha:Ag h h' rs):capR h' a=some (b,rs):=by
 unfold capR at hi ⊢
 split at hi
 ·rename_i r p i j
  split at hi
  ·rename_i c hg
   split at hi
   ·rename_i cs rs0 hcs
    simp only [Option.some.injEq,Prod.mk.injEq] at hi
    obtain ⟨rfl,rfl⟩:=hi
    simp only [getChunk_ag ha.head,hg,cellsR_ag hcs ha.tail]
   ·cases hi
  ·cases hi
 ·exact hi
 ·cases hi
theorem capsR_ag:∀ {as bs:List AV} {rs:List Rid},capsR h as=some (bs,rs)→Ag h h' rs→capsR h' as=some (bs,rs)
 | [],bs,rs,hi,_=>by simpa [capsR] using hi
 | a :: as,bs,rs,hi,ha=>by
  simp only [capsR] at hi
  split at hi
  ·rename_i b q bs' rs' h1 h2
   simp only [Option.some.injEq,Prod.mk.injEq] at hi
   obtain ⟨rfl,rfl⟩:=hi
   simp only [capsR,capR_ag h1 ha.left,capsR_ag h2 ha.right]
  ·cases hi
theorem passR_ag {n:Nat} {a b:AV} {rs:List Rid} (hi:passR h n a=some (b,rs)) (ha:Ag h h' rs):passR h' n a=some (b,rs):=by
 unfold passR at hi ⊢
 split at hi
 ·split at hi
  ·rename_i cs rs0 hcs
   simp only [Option.some.injEq,Prod.mk.injEq] at hi
   obtain ⟨rfl,rfl⟩:=hi
   simp only [cellsR_ag hcs ha]
  ·cases hi
 ·rename_i r p i j
  split at hi
  ·rename_i c hg
   split at hi
   ·rename_i hl
    split at hi
    ·rename_i cs rs0 hcs
     simp only [Option.some.injEq,Prod.mk.injEq] at hi
     obtain ⟨rfl,rfl⟩:=hi
     simp only [getChunk_ag ha.head,hg,if_pos hl,cellsR_ag hcs ha.tail]
    ·cases hi
   ·cases hi
  ·cases hi
 ·exact hi
 ·split at hi
  ·rename_i cs rs0 hcs
   simp only [Option.some.injEq,Prod.mk.injEq] at hi
   obtain ⟨rfl,rfl⟩:=hi
   simp only [capsR_ag hcs ha]
  ·cases hi
 ·exact cellR_ag hi ha
theorem cellW_ag {a b:AV} {rs:List Rid} (hi:cellW h a=some (b,rs)) (ha:Ag h h' rs):cellW h' a=some (b,rs):=by
 unfold cellW at hi ⊢
 split at hi
 ·rename_i r sz n nl
  have hr:rs = [r]:=by
   split at hi
   ·split at hi
    ·simp only [Option.some.injEq,Prod.mk.injEq] at hi;exact hi.2.symm
    ·cases hi
   ·cases hi
  subst hr
  simp only [ha.head]
  exact hi
 all_goals first
  | exact hi
  | cases hi
theorem cellsW_ag:∀ {as bs:List AV} {rs:List Rid},cellsW h as=some (bs,rs)→Ag h h' rs→cellsW h' as=some (bs,rs)
 | [],bs,rs,hi,_=>by simpa [cellsW] using hi
 | a :: as,bs,rs,hi,ha=>by
  simp only [cellsW] at hi
  split at hi
  ·rename_i b q bs' rs' h1 h2
   simp only [Option.some.injEq,Prod.mk.injEq] at hi
   obtain ⟨rfl,rfl⟩:=hi
   simp only [cellsW,cellW_ag h1 ha.left,cellsW_ag h2 ha.right]
  ·cases hi
theorem passW_ag {n:Nat} {a b:AV} {rs:List Rid} (hi:passW h n a=some (b,rs)) (ha:Ag h h' rs):passW h' n a=some (b,rs):=by
 unfold passW at hi ⊢
 split at hi
 ·rename_i r sz m nl
  have hr:rs = [r]:=by
   split at hi
   ·split at hi
    ·simp only [Option.some.injEq,Prod.mk.injEq] at hi;exact hi.2.symm
    ·cases hi
   ·cases hi
  subst hr
  simp only [ha.head]
  exact hi
 ·rename_i r i0 j0 sz m nl
  have hr:rs = [r]:=by
   split at hi
   ·split at hi
    ·split at hi
     ·simp only [Option.some.injEq,Prod.mk.injEq] at hi;exact hi.2.symm
     ·cases hi
    ·cases hi
   ·cases hi
  subst hr
  simp only [ha.head]
  exact hi
 ·rename_i cs
  split at hi
  ·rename_i ds rs0 hcs
   simp only [Option.some.injEq,Prod.mk.injEq] at hi
   obtain ⟨rfl,rfl⟩:=hi
   simp only [cellsW_ag hcs ha]
  ·cases hi
 ·rename_i r j
  split at hi
  ·rename_i cs hl
   split at hi
   ·rename_i hle
    split at hi
    ·rename_i ds rs0 hcs
     simp only [Option.some.injEq,Prod.mk.injEq] at hi
     obtain ⟨rfl,rfl⟩:=hi
     simp only [ha.head,hl,if_pos hle,cellsW_ag hcs ha.tail]
    ·cases hi
   ·cases hi
  ·cases hi
 ·cases hi
theorem passW_root {n:Nat} {r:Rid} {j:Nat} {b:AV} {rs:List Rid} (hi:passW h n (.ptr r none 0 j)=some (b,rs)):r ∈ rs:=by
 simp only [passW] at hi
 split at hi
 ·split at hi
  ·split at hi
   ·simp only [Option.some.injEq,Prod.mk.injEq] at hi
    rw [←hi.2]
    simp
   ·cases hi
  ·cases hi
 ·cases hi
theorem passAll_ag:∀ {as bs:List AV} {ms:List (Bool × Nat)} {rs ws:List Rid},passAll h ms as=some (bs,rs,ws)→Ag h h' rs→Ag h h' ws→passAll h' ms as=some (bs,rs,ws)
 | [],bs,ms,rs,ws,hp,_,_=>by
  unfold passAll at hp ⊢
  exact hp
 | a :: as,bs,[],rs,ws,hp,h1,h2=>by
  simp only [passAll] at hp
  split at hp
  ·rename_i b r bs' rs' ws' k1 k2
   simp only [Option.some.injEq,Prod.mk.injEq] at hp
   obtain ⟨rfl,rfl,rfl⟩:=hp
   simp only [passAll,passR_ag k1 h1.left,passAll_ag k2 h1.right h2]
  ·cases hp
 | a :: as,bs,(false,n) :: ms,rs,ws,hp,h1,h2=>by
  simp only [passAll] at hp
  split at hp
  ·rename_i b r bs' rs' ws' k1 k2
   simp only [Option.some.injEq,Prod.mk.injEq] at hp
   obtain ⟨rfl,rfl,rfl⟩:=hp
   simp only [passAll,passR_ag k1 h1.left,passAll_ag k2 h1.right h2]
  ·cases hp
 | a :: as,bs,(true,n) :: ms,rs,ws,hp,h1,h2=>by
  simp only [passAll] at hp
  split at hp
  ·rename_i b r bs' rs' ws' k1 k2
   simp only [Option.some.injEq,Prod.mk.injEq] at hp
   obtain ⟨rfl,rfl,rfl⟩:=hp
   simp only [passAll,passW_ag k1 h2.left,passAll_ag k2 h1 h2.right]
  ·cases hp
theorem backW_ag {i n k:Nat} {a b o:AV} {rs:List Rid} (hp:passW h k a=some (b,rs)) (ha:Ag h h' rs):backW h' i n k a o=backW h i n k a o:=by
 cases a with
 | ptr r p i0 j=>
  cases p with
  | some q=>rfl
  | none=>
   cases i0 with
   | succ m=>rfl
   | zero=>
    simp only [backW,ha r (passW_root hp)]
 | ref r p sz off m nl=>
  cases p with
  | none=>cases off<;>rfl
  | some q=>
   obtain ⟨i0,j0⟩:=q
   cases off with
   | succ m=>rfl
   | zero=>
    have hr:r ∈ rs:=by
     simp only [passW] at hp
     split at hp
     ·split at hp
      ·split at hp
       ·simp only [Option.some.injEq,Prod.mk.injEq] at hp
        rw [←hp.2];simp
       ·cases hp
      ·cases hp
     ·cases hp
    simp only [backW,ha r hr]
 | _=>rfl
theorem backAll_ag {i:Nat}:∀ {as bs os:List AV} {ms:List (Bool × Nat)} {rs ws:List Rid} {n:Nat},passAll h ms as=some (bs,rs,ws)→Ag h h' ws→backAll h' i n ms as os=backAll h i n ms as os
 | [],bs,os,ms,rs,ws,n,hp,_=>by
  cases os with
  | nil=>
   match ms with
   | []=>rfl
   |(true,_) :: _=>rfl
   |(false,_) :: _=>rfl
  | cons o os=>
   match ms with
   | []=>rfl
   |(true,_) :: _=>rfl
   |(false,_) :: _=>rfl
 | a :: as,bs,[],ms,rs,ws,n,hp,ha=>by
  match ms with
  | []=>rfl
  |(true,_) :: _=>rfl
  |(false,_) :: _=>rfl
 | a :: as,bs,o :: os,[],rs,ws,n,hp,ha=>by
  simp only [passAll] at hp
  split at hp
  ·rename_i b r bs' rs' ws' k1 k2
   simp only [Option.some.injEq,Prod.mk.injEq] at hp
   obtain ⟨rfl,rfl,rfl⟩:=hp
   simp only [backAll]
   exact backAll_ag k2 ha
  ·cases hp
 | a :: as,bs,o :: os,(false,m) :: ms,rs,ws,n,hp,ha=>by
  simp only [passAll] at hp
  split at hp
  ·rename_i b r bs' rs' ws' k1 k2
   simp only [Option.some.injEq,Prod.mk.injEq] at hp
   obtain ⟨rfl,rfl,rfl⟩:=hp
   simp only [backAll]
   exact backAll_ag k2 ha
  ·cases hp
 | a :: as,bs,o :: os,(true,m) :: ms,rs,ws,n,hp,ha=>by
  simp only [passAll] at hp
  split at hp
  ·rename_i b r bs' rs' ws' k1 k2
   simp only [Option.some.injEq,Prod.mk.injEq] at hp
   obtain ⟨rfl,rfl,rfl⟩:=hp
   simp only [backAll,backW_ag k1 ha.left]
   cases backW h i n m a o with
   | none=>rfl
   | some x=>
    obtain ⟨w1,n1⟩:=x
    simp only [backAll_ag k2 ha.right]
  ·cases hp
end
section
variable {T:Types} {M:Modes} {C:FuncId→List AV→AV→List AV→Prop} {s s':St} {i:Nat} {o:Oper}
def EvAg (s s':St) (xs:List Operand):Prop:=∀ x ∈ xs,s'.ev x=s.ev x
theorem evList_ag:∀ {xs:List Operand},EvAg s s' xs→evList s' xs=evList s xs
 | [],_=>rfl
 | x :: xs,h=>by
  simp only [evList,h x (by simp),evList_ag (xs:=xs) (fun y hy=>h y (by simp [hy]))]
theorem evParts_ag:∀ {xs:List (Nat × Operand)},EvAg s s' (xs.map (·.2))→evParts s' xs=evParts s xs
 | [],_=>rfl
 |(i,x) :: xs,h=>by
  simp only [evParts,h x (by simp),evParts_ag (xs:=xs) (fun y hy=>h y (by simp only [List.map_cons,List.mem_cons];exact .inr hy))]
theorem optOp_ag {x:Option Operand} (h:EvAg s s' x.toList):optOp s'.ev x=optOp s.ev x:=by
 cases x with
 | none=>rfl
 | some y=>simp only [optOp,h y (by simp)]
theorem aop_ag {e:Eff} (he:aop T s i o=some e) (hev:EvAg s s' o.op.operands.toList) (hag:Ag s.h s'.h e.rd):aop T s' i o=some e:=by
 cases ho:o.op with
 | move x=>simp only [aop,ho] at he ⊢; rw [hev x (by simp [ho,Op.operands])];exact he
 | assign x=>simp only [aop,ho] at he ⊢; rw [hev x (by simp [ho,Op.operands])];exact he
 | pick c x y=>simp only [aop,ho] at he ⊢; rw [hev c (by simp [ho,Op.operands]),hev x (by simp [ho,Op.operands]),hev y (by simp [ho,Op.operands])];exact he
 | alloc t=>simp only [aop,ho] at he ⊢; exact he
 | box t x=>simp only [aop,ho] at he ⊢; rw [hev x (by simp [ho,Op.operands])];exact he
 | build t parts=>
  simp only [aop,ho] at he ⊢
  rw [evParts_ag (xs:=parts.toList) (fun y hy=>hev y (by rw [ho];simpa [Op.operands] using hy))]
  exact he
 | buildSlice t n parts=>
  simp only [aop,ho] at he ⊢
  rw [evParts_ag (xs:=parts.toList) (fun y hy=>hev y (by rw [ho];simpa [Op.operands] using hy))]
  split at he
  ·split at he
   ·split at he
    ·rename_i xs rs hf
     split at he
     ·cases he
     ·rename_i hb
      injection he with he
      subst he
      simp only [fillSlice_ag hf hag,if_neg hb]
    ·cases he
   ·cases he
  ·cases he
 | makeSlice t l c=>simp only [aop,ho] at he ⊢; rw [hev l (by simp [ho,Op.operands]),hev c (by simp [ho,Op.operands])];exact he
 | load t x=>
  simp only [aop,ho] at he ⊢
  rw [hev x (by simp [ho,Op.operands])]
  split at he
  ·exact loadAV_ag he hag
  ·cases he
 | store t x y=>
  simp only [aop,ho] at he ⊢
  rw [hev x (by simp [ho,Op.operands]),hev y (by simp [ho,Op.operands])]
  split at he
  ·exact storeAV_ag he hag
  ·cases he
 | nilCheck x=>simp only [aop,ho] at he ⊢; rw [hev x (by simp [ho,Op.operands])];exact he
 | fieldAddr t x f=>simp only [aop,ho] at he ⊢; rw [hev x (by simp [ho,Op.operands])];exact he
 | field t x f=>simp only [aop,ho] at he ⊢; rw [hev x (by simp [ho,Op.operands])];exact he
 | indexAddr t x ix=>
  simp only [aop,ho] at he ⊢
  rw [hev x (by simp [ho,Op.operands]),hev ix (by simp [ho,Op.operands])]
  split at he
  ·exact indexAddrAV_ag he hag
  ·cases he
 | index t x ix=>simp only [aop,ho] at he ⊢; rw [hev x (by simp [ho,Op.operands]),hev ix (by simp [ho,Op.operands])];exact he
 | slice t x lo hi mx=>
  cases mx with
  | some _=>simp only [aop,ho] at he;cases he
  | none=>
   simp only [aop,ho] at he ⊢
   rw [hev x (by simp [ho,Op.operands]),optOp_ag (x:=lo) (fun y hy=>hev y (by rw [ho];simp [Op.operands];simp at hy;simp [hy])),optOp_ag (x:=hi) (fun y hy=>hev y (by rw [ho];simp [Op.operands];simp at hy;simp [hy]))]
   exact he
 | binOp op t x y u=>simp only [aop,ho] at he ⊢; rw [hev x (by simp [ho,Op.operands]),hev y (by simp [ho,Op.operands])];exact he
 | unOp op t x=>simp only [aop,ho] at he ⊢; rw [hev x (by simp [ho,Op.operands])];exact he
 | convert src dst x=>
  simp only [aop,ho] at he ⊢
  rw [hev x (by simp [ho,Op.operands])]
  split at he
  ·exact convertAV_ag he hag
  ·cases he
 | makeFunc f first caps=>
  cases f with
  | func f=>
   simp only [aop,ho] at he ⊢
   rw [evList_ag (xs:=caps.toList) (fun y hy=>hev y (by rw [ho];simp [Op.operands];simp at hy;simp [hy]))]
   exact he
  | _=>simp only [aop,ho] at he;cases he
 | extract x k=>simp only [aop,ho] at he ⊢; rw [hev x (by simp [ho,Op.operands])];exact he
 | call c=>
  simp only [aop,ho] at he ⊢
  split at he
  ·rename_i b hc
   rw [evList_ag (xs:=c.args.toList) (fun y hy=>hev y (by rw [ho];simp [Op.operands,Call.operands,hc];simpa using hy))]
   split at he
   ·rename_i as hargs
    split at he
    ·exact he
    ·split at he
     ·exact appendAV_ag he hag
     ·cases he
    ·split at he
     ·exact copyAV_ag he hag
     ·cases he
    ·exact he
    ·exact he
    ·cases he
   ·cases he
  ·cases he
 | _=>simp only [aop,ho] at he;cases he
theorem takes_ag {e:Eff} (he:Takes T M C s i o e) (hev:EvAg s s' o.op.operands.toList) (hag:Ag s.h s'.h e.rd):Takes T M C s' i o e:=by
 rcases he with ⟨h1,h2,h3⟩ | ⟨c,f,args,as,rs,ws,res,outs,h1,h2,h3,h4,h5,h6⟩
 ·exact .inl ⟨h1,aop_ag h2 hev hag,h3⟩
 ·right
  have hrd:e.rd=rs++ws:=by
   unfold callEff at h6
   split at h6
   ·split at h6
    ·split at h6
     ·cases h6
     split at h6
     ·simp only [Option.some.injEq] at h6
      rw [←h6]
     ·cases h6
    ·cases h6
   ·cases h6
  rw [hrd] at hag
  refine ⟨c,f,args,as,rs,ws,res,outs,h1,h2,?_,passAll_ag h4 hag.left hag.right,h5,?_⟩
  ·unfold calleeAV at h3 ⊢
   cases hc:c.callee with
   | value x=>
    rw [hc] at h3
    simp only at h3 ⊢
    rw [hev x (by rw [h2];simp [Op.operands,Call.operands,hc]),evList_ag (xs:=c.args.toList) (fun y hy=>hev y (by rw [h2];simp [Op.operands,Call.operands,hc];simp at hy;simp [hy]))]
    exact h3
   | builtin b=>rw [hc] at h3;cases h3
   | invoke x n=>rw [hc] at h3;cases h3
  ·unfold callEff at h6 ⊢
   split at h6
   ·rename_i hcond
    rw [if_pos hcond,backAll_ag h4 hag.right]
    exact h6
   ·cases h6
end

structure Stp where
 i:Nat
 o:Oper
 e:Option Eff
def Stp.on (x:Stp) (s:St):St:=match x.e with
 | some e=>s.apply x.o.dst e
 | none=>s.skip x.o.dst
def Stp.out (x:Stp):AV:=match x.e with
 | some e=>e.out
 | none => .undef
def Stp.wr (x:Stp):Wr:=match x.e with
 | some e=>e.wr
 | none => []
def Stp.rd (x:Stp):List Rid:=match x.e with
 | some e=>e.rd
 | none => []
def runD (D:Nat→Prop) [DecidablePred D]:List Stp→St→St
 | [],s=>s
 | x :: l,s=>runD D l (if D x.i then x.on s else s)
theorem on_t (x:Stp) (s:St):(x.on s).t=putT x.o.dst x.out s.t:=by
 unfold Stp.on Stp.out
 cases x.e<;>rfl
theorem on_h (x:Stp) (s:St):(x.on s).h=applyWr x.wr s.h:=by
 unfold Stp.on Stp.wr
 cases x.e<;>rfl
theorem look_putT {k:Nat} {dst:Option Tmp} {v:AV} {t:List (Nat × AV)}:look k (putT dst v t)=if dst=some k then some v else look k t:=by
 cases dst with
 | none=>simp [putT]
 | some d=>
  simp only [putT,look_put,Option.some.injEq]
  by_cases h:k=d
  ·simp [h]
  ·simp [h,Ne.symm h]
section
variable {D D':Nat→Prop} [DecidablePred D] [DecidablePred D']
theorem runD_t {k:Nat}:∀ {l:List Stp} {s s':St},(∀ x ∈ l,x.o.dst=some k→(D x.i↔D' x.i))→look k s.t=look k s'.t→look k (runD D l s).t=look k (runD D' l s').t
 | [],s,s',_,h=>h
 | x :: l,s,s',hx,h=>by
  simp only [runD]
  refine runD_t (fun y hy=>hx y (by simp [hy])) ?_
  by_cases hd:x.o.dst=some k
  ·have:=hx x (by simp) hd
   by_cases h1:D x.i
   ·simp only [h1,this.1 h1,if_true,on_t,look_putT,hd]
   ·simp only [h1,fun h=>h1 (this.2 h),if_false]
    rw [if_neg (fun h=>h1 (this.2 h))]
    exact h
  ·have e1:look k (if D x.i then x.on s else s).t=look k s.t:=by
    split
    ·rw [on_t,look_putT,if_neg hd]
    ·rfl
   have e2:look k (if D' x.i then x.on s' else s').t=look k s'.t:=by
    split
    ·rw [on_t,look_putT,if_neg hd]
    ·rfl
   rw [e1,e2]
   exact h
theorem runD_h {r:Rid}:∀ {l:List Stp} {s s':St},(∀ x ∈ l,r ∈ x.wr.map (·.1)→(D x.i↔D' x.i))→look r s.h=look r s'.h→look r (runD D l s).h=look r (runD D' l s').h
 | [],s,s',_,h=>h
 | x :: l,s,s',hx,h=>by
  simp only [runD]
  refine runD_h (fun y hy=>hx y (by simp [hy])) ?_
  by_cases hd:r ∈ x.wr.map (·.1)
  ·have:=hx x (by simp) hd
   by_cases h1:D x.i
   ·simp only [h1,this.1 h1,if_true,on_h,look_applyWr]
    cases hl:lastWr r x.wr with
    | none=>exact absurd hd (lastWr_none.1 hl)
    | some y=>rfl
   ·rw [if_neg h1,if_neg (fun h=>h1 (this.2 h))]
    exact h
  ·have e1:look r (if D x.i then x.on s else s).h=look r s.h:=by
    split
    ·rw [on_h,look_applyWr,lastWr_none.2 hd]
    ·rfl
   have e2:look r (if D' x.i then x.on s' else s').h=look r s'.h:=by
    split
    ·rw [on_h,look_applyWr,lastWr_none.2 hd]
    ·rfl
   rw [e1,e2]
   exact h
theorem runD_last_t {x:Stp} {k:Nat} (hk:x.o.dst=some k) (hx:D x.i):∀ {l:List Stp} {s:St} {l1 l2:List Stp},l=l1++x :: l2→(∀ y ∈ l2,D y.i→y.o.dst≠some k)→look k (runD D l s).t=some x.out:=by
 have rest:∀ {l2:List Stp} {s:St},(∀ y ∈ l2,D y.i→y.o.dst≠some k)→look k (runD D l2 s).t=look k s.t:=by
  intro l2
  induction l2 with
  | nil=>intro s _;rfl
  | cons y l2 ih=>
   intro s hy
   simp only [runD]
   rw [ih (fun z hz=>hy z (by simp [hz]))]
   split
   ·rename_i h1
    rw [on_t,look_putT,if_neg (hy y (by simp) h1)]
   ·rfl
 intro l s l1
 induction l1 generalizing l s with
 | nil=>
  intro l2 e hy
  subst e
  simp only [List.nil_append,runD,hx,if_true]
  rw [rest hy,on_t,look_putT,if_pos hk]
 | cons z l1 ih=>
  intro l2 e hy
  subst e
  simp only [List.cons_append,runD]
  exact ih rfl hy
theorem runD_last_h {x:Stp} {r:Rid} (hk:r ∈ x.wr.map (·.1)) (hx:D x.i):∀ {l:List Stp} {s:St} {l1 l2:List Stp},l=l1++x :: l2→(∀ y ∈ l2,D y.i→r ∉ y.wr.map (·.1))→∀ h,look r (runD D l s).h=look r (applyWr x.wr h):=by
 have rest:∀ {l2:List Stp} {s:St},(∀ y ∈ l2,D y.i→r ∉ y.wr.map (·.1))→look r (runD D l2 s).h=look r s.h:=by
  intro l2
  induction l2 with
  | nil=>intro s _;rfl
  | cons y l2 ih=>
   intro s hy
   simp only [runD]
   rw [ih (fun z hz=>hy z (by simp [hz]))]
   split
   ·rename_i h1
    rw [on_h,look_applyWr,lastWr_none.2 (hy y (by simp) h1)]
   ·rfl
 intro l s l1
 induction l1 generalizing l s with
 | nil=>
  intro l2 e hy h
  subst e
  simp only [List.nil_append,runD,hx,if_true]
  rw [rest hy,on_h,look_applyWr,look_applyWr]
  cases hl:lastWr r x.wr with
  | none=>exact absurd hk (lastWr_none.1 hl)
  | some y=>rfl
 | cons z l1 ih=>
  intro l2 e hy
  subst e
  simp only [List.cons_append,runD]
  exact ih rfl hy
end
theorem Sim.ext {X:Fix} {D:Nat→Prop} {s s':St} {a:Act} {w:World} (hs:Sim X D s a w) (ht:∀ k,look k s'.t=look k s.t) (hh:∀ r,look r s'.h=look r s.h):Sim X D s' a w:=by
 obtain ⟨hl,hS,ρ,Fr,m,htm⟩:=hs
 have hc:∀ r,Compat w s.h ρ w s'.h ρ r:=fun r=>Compat.still (hh r) rfl (fun _ _ _=>rfl)
 refine ⟨?_,hS,ρ,Fr,?_,?_⟩
 ·rintro r (⟨k,v,hk,hr⟩ | ⟨q,x,hq,hr⟩)
  ·exact hl r (.inl ⟨k,v,by rw [←ht];exact hk,hr⟩)
  ·exact hl r (.inr ⟨q,x,by rw [←hh];exact hq,hr⟩)
 ·refine Mem.step (fun _=>False) m (fun _ _ _=>rfl) rfl rfl rfl (Nat.le_refl _) (fun _ _ _ => .inl rfl) (fun r _=>⟨hh r,rfl,rfl⟩) (fun _ _ _ _ _ _=>rfl) (fun _ _ h=>h.elim) (fun _ _ _ h=>h.elim) (fun _ _ _ _ _ h=>h.elim) (fun r x q _ _ _=>hc q)
 ·intro k v hk
  obtain ⟨h1,h2⟩:=htm k v (by rw [←ht];exact hk)
  exact ⟨h1,h2.upd (fun _ _ _=>rfl) (fun r _=>hc r)⟩
section
variable {T:Types} {M:Modes} {C:FuncId→List AV→AV→List AV→Prop}
def Wants (all:Array Oper) (s:St) (o:Oper) (b:Bool):Prop:=
 (o.guard=none∧b=true)∨∃ j want x,o.guard=some (j,want)∧guardAV all j s=some x∧((∃ c,x = .bool c∧b=(c == want))∨(x = .undef∧b=false))
inductive Trace (T:Types) (M:Modes) (C:FuncId→List AV→AV→List AV→Prop) (all:Array Oper):List Oper→Nat→St→Log→List Stp→St→Log→Prop
 | nil {i s l}:Trace T M C all [] i s l [] s l
 | take {o os i s l e sts s' l'} (hw:Wants all s o true) (ht:Takes T M C s i o e) (hr:Trace T M C all os (i + 1) (s.apply o.dst e) ((i,e.rd,e.wr.map (·.1)) :: l) sts s' l') :
   Trace T M C all (o :: os) i s l (⟨i,o,some e⟩ :: sts) s' l'
 | skip {o os i s l sts s' l'} (hw:Wants all s o false) (hr:Trace T M C all os (i + 1) (s.skip o.dst) l sts s' l'):Trace T M C all (o :: os) i s l (⟨i,o,none⟩ :: sts) s' l'
theorem aops_trace {all:Array Oper} {Q:St→Log→Prop}:∀ (os:List Oper) (i:Nat) (s:St) (l:Log),aops T M C all os i s l Q→∃ sts s' l',Trace T M C all os i s l sts s' l'∧Q s' l'
 | [],i,s,l,h=>⟨[],s,l, .nil,h⟩
 | o :: os,i,s,l,h=>by
  have hdo:Wants all s o true→aexec T M C s i o (fun e=>aops T M C all os (i + 1) (s.apply o.dst e) ((i,e.rd,e.wr.map (·.1)) :: l) Q)→∃ sts s' l',Trace T M C all (o :: os) i s l sts s' l'∧Q s' l':=by
   intro hw h
   obtain ⟨e,h1,h2⟩:=aexec_takes h
   obtain ⟨sts,s',l',h3,h4⟩:=aops_trace os (i + 1) _ _ h2
   exact ⟨_,s',l', .take hw h1 h3,h4⟩
  have hskip:Wants all s o false→aops T M C all os (i + 1) (s.skip o.dst) l Q→∃ sts s' l',Trace T M C all (o :: os) i s l sts s' l'∧Q s' l':=by
   intro hw h
   obtain ⟨sts,s',l',h3,h4⟩:=aops_trace os (i + 1) _ _ h
   exact ⟨_,s',l', .skip hw h3,h4⟩
  unfold aops at h
  split at h
  ·rename_i hg
   exact hdo (.inl ⟨hg,rfl⟩) h
  ·rename_i j want hg
   split at h
   ·rename_i b hgv
    by_cases hb:b=want
    ·exact hdo (.inr ⟨j,want,_,hg,hgv, .inl ⟨b,rfl,by simp [hb]⟩⟩) (h.1 hb)
    ·exact hskip (.inr ⟨j,want,_,hg,hgv, .inl ⟨b,rfl,by simp [hb]⟩⟩) (h.2 (by cases b<;>cases want<;>simp_all))
   ·rename_i hgv
    exact hskip (.inr ⟨j,want,_,hg,hgv, .inr ⟨rfl,rfl⟩⟩) h
   ·exact h.elim
theorem Trace.runAll {all:Array Oper} {os:List Oper} {i:Nat} {s s':St} {l l':Log} {sts:List Stp} (h:Trace T M C all os i s l sts s' l'):runD (fun _=>True) sts s=s':=by
 induction h with
 | nil=>rfl
 | take hw ht hr ih=>simpa [runD,Stp.on] using ih
 | skip hw hr ih=>simpa [runD,Stp.on] using ih
end

section
variable {T:Types} {M:Modes} {C:FuncId→List AV→AV→List AV→Prop}
theorem Trace.sub {all:Array Oper} {os:List Oper} {i:Nat} {s s':St} {l l':Log} {sts:List Stp} (h:Trace T M C all os i s l sts s' l'):∀ x ∈ l,x ∈ l':=by
 induction h with
 | nil=>exact fun x hx=>hx
 | take hw ht hr ih=>exact fun x hx=>ih x (by simp [hx])
 | skip hw hr ih=>exact ih
theorem Trace.length {all:Array Oper} {os:List Oper} {i:Nat} {s s':St} {l l':Log} {sts:List Stp} (h:Trace T M C all os i s l sts s' l'):sts.length=os.length:=by
 induction h with
 | nil=>rfl
 | take hw ht hr ih=>simp [ih]
 | skip hw hr ih=>simp [ih]
theorem Trace.at {all:Array Oper} {os:List Oper} {i:Nat} {s s':St} {l l':Log} {sts:List Stp} (h:Trace T M C all os i s l sts s' l'):∀ l1 x l2,sts=l1++x :: l2→
  Wants all (runD (fun _=>True) l1 s) x.o x.e.isSome∧(∀ e,x.e=some e→Takes T M C (runD (fun _=>True) l1 s) x.i x.o e∧(x.i,e.rd,e.wr.map (·.1)) ∈ l')∧x.i=i + l1.length∧os[l1.length]? = some x.o:=by
 induction h with
 | nil=>intro l1 x l2 e;simp at e
 | take hw ht hr ih=>
  intro l1 x l2 e
  cases l1 with
  | nil=>
   simp only [List.nil_append,List.cons.injEq] at e
   obtain ⟨rfl,rfl⟩:=e
   refine ⟨hw,fun e he => ?_,by simp,rfl⟩
   injection he with he
   subst he
   exact ⟨ht,hr.sub _ (by simp)⟩
  | cons y l1=>
   simp only [List.cons_append,List.cons.injEq] at e
   obtain ⟨rfl,e⟩:=e
   obtain ⟨h1,h2,h3,h4⟩:=ih l1 x l2 e
   refine ⟨by simpa [runD,Stp.on] using h1,fun e he=>by simpa [runD,Stp.on] using h2 e he,by simp [h3];omega,by simpa using h4⟩
 | skip hw hr ih=>
  intro l1 x l2 e
  cases l1 with
  | nil=>
   simp only [List.nil_append,List.cons.injEq] at e
   obtain ⟨rfl,rfl⟩:=e
   exact ⟨hw,fun e he=>(by cases he),by simp,rfl⟩
  | cons y l1=>
   simp only [List.cons_append,List.cons.injEq] at e
   obtain ⟨rfl,e⟩:=e
   obtain ⟨h1,h2,h3,h4⟩:=ih l1 x l2 e
   refine ⟨by simpa [runD,Stp.on] using h1,fun e he=>by simpa [runD,Stp.on] using h2 e he,by simp [h3];omega,by simpa using h4⟩
end
theorem fold_bit (acc:Array Nat) (i:Nat):∀ (es:List Edge) (m:Nat),(es.foldl (fun s e=>if Region.binds .any e then s ||| 2 ^ e.on ||| acc.getD e.on 0 else s) m).testBit i=true→
  m.testBit i=true∨∃ e ∈ es,Region.binds .any e=true∧(e.on=i∨(acc.getD e.on 0).testBit i=true)
 | [],m,h => .inl h
 | e :: es,m,h=>by
  simp only [List.foldl_cons] at h
  rcases fold_bit acc i es _ h with h1 | ⟨e',h1,h2⟩
  ·split at h1
   ·rename_i hb
    rw [Nat.testBit_or,Nat.testBit_or,Nat.testBit_two_pow] at h1
    simp only [Bool.or_eq_true,decide_eq_true_eq] at h1
    rcases h1 with (h1 | h1) | h1
    ·exact .inl h1
    ·exact .inr ⟨e,by simp,hb, .inl h1⟩
    ·exact .inr ⟨e,by simp,hb, .inr h1⟩
   ·exact .inl h1
  ·exact .inr ⟨e',by simp [h1],h2⟩
theorem before_spec {ops:Array Oper} {i j:Nat} (h:((Region.before ops).getD j 0).testBit i=true) :
  ∃ o e,ops[j]? = some o∧e ∈ o.after.toList∧Region.binds .any e=true∧(e.on=i∨(e.on < j∧((Region.before ops).getD e.on 0).testBit i=true)):=by
 have key:∀ (rest done:List Oper) (acc:Array Nat),acc.size=done.length→
   (∀ j i,(acc.getD j 0).testBit i=true→∃ o e,done[j]? = some o∧e ∈ o.after.toList∧Region.binds .any e=true∧(e.on=i∨(e.on < j∧(acc.getD e.on 0).testBit i=true)))→
   ∀ j i,((rest.foldl (fun acc o=>acc.push (o.after.foldl (fun s e=>if Region.binds .any e then s ||| 2 ^ e.on ||| acc.getD e.on 0 else s) 0)) acc).getD j 0).testBit i=true→
    ∃ o e,(done++rest)[j]? = some o∧e ∈ o.after.toList∧Region.binds .any e=true∧(e.on=i∨(e.on < j∧((rest.foldl (fun acc o=>acc.push (o.after.foldl (fun s e=>if Region.binds .any e then s ||| 2 ^ e.on ||| acc.getD e.on 0 else s) 0)) acc).getD e.on 0).testBit i=true)):=by
  intro rest
  induction rest with
  | nil=>intro done acc hs hacc j i hb;simpa using hacc j i hb
  | cons o rest ih=>
   intro done acc hs hacc j i hb
   simp only [List.foldl_cons] at hb ⊢
   have:=ih (done ++ [o]) (acc.push (o.after.foldl (fun s e=>if Region.binds .any e then s ||| 2 ^ e.on ||| acc.getD e.on 0 else s) 0)) (by simp [hs]) (fun j i hb => ?_) j i hb
   ·simpa using this
   ·have hget:∀ k,k < acc.size→(acc.push (o.after.foldl (fun s e=>if Region.binds .any e then s ||| 2 ^ e.on ||| acc.getD e.on 0 else s) 0)).getD k 0=acc.getD k 0:=fun k hk=>by
     simp [Array.getElem?_push,show k≠acc.size by omega]
    by_cases hj:j < acc.size
    ·rw [hget j hj] at hb
     obtain ⟨o',e,h1,h2,h3,h4⟩:=hacc j i hb
     refine ⟨o',e,by rw [List.getElem?_append_left (by omega)];exact h1,h2,h3,h4.imp id fun h5=>⟨h5.1,?_⟩⟩
     rw [hget e.on (by omega)]
     exact h5.2
    ·by_cases hj2:j=acc.size
     ·subst hj2
      have hb':(o.after.foldl (fun s e=>if Region.binds .any e then s ||| 2 ^ e.on ||| acc.getD e.on 0 else s) 0).testBit i=true:=by simpa using hb
      rw [←Array.foldl_toList] at hb'
      rcases fold_bit acc i _ _ hb' with h1 | ⟨e,h1,h2,h3⟩
      ·simp at h1
      ·refine ⟨o,e,by rw [hs];simp,h1,h2,h3.imp id fun h4 => ?_⟩
       have hlt:e.on < acc.size:=by
        rcases Nat.lt_or_ge e.on acc.size with h | h
        ·exact h
        ·simp [Array.getElem?_eq_none h] at h4
       exact ⟨hlt,by rw [hget e.on hlt];exact h4⟩
     ·exfalso
      generalize o.after.foldl (fun s e=>if Region.binds .any e then s ||| 2 ^ e.on ||| acc.getD e.on 0 else s) 0=q at hb
      have h0:(acc.push q)[j]? = none:=Array.getElem?_eq_none (by simp;omega)
      rw [Array.getD_eq_getD_getElem?,h0] at hb
      simp at hb
 have hfold:Region.before ops=ops.toList.foldl (fun acc o=>acc.push (o.after.foldl (fun s e=>if Region.binds .any e then s ||| 2 ^ e.on ||| acc.getD e.on 0 else s) 0)) #[]:=by
  unfold Region.before
  rw [←Array.foldl_toList]
 rw [hfold] at h ⊢
 obtain ⟨o,e,h1,h2⟩:=key ops.toList [] #[] rfl (fun j i hb=>by simp at hb) j i h
 exact ⟨o,e,by simpa using h1,h2⟩
theorem before_closed {ops:Array Oper} {D:Nat→Prop} (hD:∀ j o,D j→ops[j]? = some o→∀ e ∈ o.after.toList,Region.binds .any e=true→D e.on):∀ (j:Nat),D j→∀ i,((Region.before ops).getD j 0).testBit i=true→D i:=by
 intro j
 induction j using Nat.strongRecOn with
 | ind j ih=>
  intro hj i hb
  obtain ⟨o,e,h1,h2,h3,h4⟩:=before_spec hb
  have he:=hD j o hj h1 e h2 h3
  rcases h4 with rfl | ⟨h4,h5⟩
  ·exact he
  ·exact ih e.on h4 he i h5

section
variable {X:Fix} {s s':St} {a:Act} {w:World} {T:Types} {M:Modes} {C:FuncId→List AV→AV→List AV→Prop} {all:Array Oper} {l':Log} {sts:List Stp}
theorem runD_none {D:Nat→Prop} [DecidablePred D]:∀ {l:List Stp} {s:St},(∀ x ∈ l,¬ D x.i)→runD D l s=s
 | [],s,_=>rfl
 | x :: l,s,h=>by
  simp only [runD,h x (by simp),if_false]
  exact runD_none (fun y hy=>h y (by simp [hy]))
theorem runD_prefix {D:Nat→Prop} [DecidablePred D]:∀ {l1:List Stp} {l2:List Stp} {s:St},(∀ x ∈ l1,D x.i)→(∀ x ∈ l2,¬ D x.i)→runD D (l1++l2) s=runD (fun _=>True) l1 s
 | [],l2,s,_,h2=>by simpa [runD] using runD_none h2
 | x :: l1,l2,s,h1,h2=>by
  simp only [List.cons_append,runD,h1 x (by simp),if_true]
  exact runD_prefix (fun y hy=>h1 y (by simp [hy])) h2
structure Ord (all:Array Oper) (sts:List Stp):Prop where
 idx:∀ (k:Nat) (x:Stp),sts[k]? = some x→x.i=k∧all[k]? = some x.o
 len:sts.length=all.size
 edge:∀ j o,all[j]? = some o→∀ e ∈ o.after.toList,Region.binds .any e=true→e.on < j
 apart:∀ i j x y,i < j→all[i]? = some x→all[j]? = some y→((Region.before all).getD j 0).testBit i=false→x.apart all y=true
 wr:∀ x ∈ sts,∀ y ∈ sts,x.i < y.i→((Region.before all).getD y.i 0).testBit x.i=false→∀ r ∈ x.wr.map (·.1),r ∉ y.rd∧r ∉ y.wr.map (·.1)
 rd:∀ x ∈ sts,∀ y ∈ sts,x.i < y.i→((Region.before all).getD y.i 0).testBit x.i=false→∀ r ∈ y.wr.map (·.1),r ∉ x.rd
theorem ord_of (ht:Trace T M C all all.toList 0 s [] sts s' l') (hi:indep all l'=true):Ord all sts:=by
 unfold indep at hi
 simp only [Bool.and_eq_true,List.all_eq_true,List.mem_range] at hi
 obtain ⟨⟨h1,h2⟩,h3⟩:=hi
 have hidx:∀ (k:Nat) (x:Stp),sts[k]? = some x→x.i=k∧all[k]? = some x.o:=by
  intro k x hk
  obtain ⟨hlt,hx⟩:=List.getElem?_eq_some_iff.1 hk
  have hsplit:sts=sts.take k++x :: sts.drop (k + 1):=by
   rw [←hx]
   simp
  obtain ⟨-,-,k3,k4⟩:=ht.at _ _ _ hsplit
  have hlk:(sts.take k).length=k:=by simp;omega
  rw [hlk] at k3 k4
  exact ⟨by omega,by simpa using k4⟩
 have hlog:∀ x ∈ sts,∀ e,x.e=some e→(x.i,e.rd,e.wr.map (·.1)) ∈ l':=by
  intro x hx e he
  obtain ⟨l1,l2,hs⟩:=List.append_of_mem hx
  exact ((ht.at l1 x l2 hs).2.1 e he).2
 have hpair:∀ x ∈ sts,∀ y ∈ sts,x.i < y.i→((Region.before all).getD y.i 0).testBit x.i=false→∀ ex ey,x.e=some ex→y.e=some ey→
   disj (ex.wr.map (·.1)) (ey.rd++ey.wr.map (·.1))=true∧disj (ey.wr.map (·.1)) ex.rd=true:=by
  intro x hx y hy hlt hb ex ey hex hey
  have:=h1 _ (hlog x hx ex hex) _ (hlog y hy ey hey)
  simp only [hlt,decide_true,Bool.not_true,Bool.false_or,hb,Bool.and_eq_true] at this
  exact this
 refine ⟨hidx,by simpa using ht.length,?_,?_,?_,?_⟩
 ·intro j o hj e he hb
  have hlt:j < all.size:=(Array.getElem?_eq_some_iff.1 hj).1
  have:=h3 j hlt
  rw [hj] at this
  simp only [Array.all_eq_true_iff_forall_mem] at this
  have:=this e (by simpa using he)
  simpa [hb] using this
 ·intro i j x y hlt hx hy hb
  have hj:j < all.size:=(Array.getElem?_eq_some_iff.1 hy).1
  have:=h2 j hj i hlt
  rw [hx,hy] at this
  simp only [hb,Bool.false_or] at this
  exact this
 ·intro x hx y hy hlt hb r hr
  cases hex:x.e with
  | none=>simp [Stp.wr,hex] at hr
  | some ex=>
   simp only [Stp.wr,hex] at hr
   cases hey:y.e with
   | none=>simp [Stp.rd,Stp.wr,hey]
   | some ey=>
    have:=disj_iff (hpair x hx y hy hlt hb ex ey hex hey).1 r hr
    simp only [List.mem_append,not_or] at this
    simp only [Stp.rd,Stp.wr,hey]
    exact this
 ·intro x hx y hy hlt hb r hr
  cases hey:y.e with
  | none=>simp [Stp.wr,hey] at hr
  | some ey=>
   simp only [Stp.wr,hey] at hr
   cases hex:x.e with
   | none=>simp [Stp.rd,hex]
   | some ex=>
    simp only [Stp.rd,hex]
    exact disj_iff (hpair x hx y hy hlt hb ex ey hex hey).2 r hr
end
section
variable {X:Fix} {s:St} {a:Act} {w:World} {T:Types} {M:Modes} {C:FuncId→List AV→AV→List AV→Prop} {all:Array Oper} {sts:List Stp}
structure Next (all:Array Oper) (D:Nat→Prop) (i:Nat) (o:Oper):Prop where
 closed:∀ j o,D j→all[j]? = some o→∀ e ∈ o.after.toList,Region.binds .any e=true→D e.on
 at_:all[i]? = some o
 not:¬ D i
 pre:∀ e ∈ o.after.toList,Region.binds .any e=true→D e.on
theorem Next.later {D:Nat→Prop} {i:Nat} {o:Oper} (hn:Next all D i o) {j:Nat} (hj:D j):((Region.before all).getD j 0).testBit i=false:=by
 cases h:((Region.before all).getD j 0).testBit i with
 | false=>rfl
 | true=>exact absurd (before_closed hn.closed j hj i h) hn.not
theorem Next.earlier {D:Nat→Prop} {i:Nat} {o:Oper} (hn:Next all D i o) {j:Nat} (hj:¬ D j):((Region.before all).getD i 0).testBit j=false:=by
 cases h:((Region.before all).getD i 0).testBit j with
 | false=>rfl
 | true=>
  exfalso
  obtain ⟨o',e,h1,h2,h3,h4⟩:=before_spec h
  rw [hn.at_] at h1
  injection h1 with h1
  subst h1
  have he:=hn.pre e h2 h3
  rcases h4 with rfl | ⟨-,h5⟩
  ·exact hj he
  ·exact hj (before_closed hn.closed e.on he j h5)
theorem Next.slot (ho:Ord all sts) {D:Nat→Prop} {i:Nat} {o:Oper} (hn:Next all D i o) {k:Nat} (hk:k ∈ o.looksAt all):∀ y ∈ sts,y.o.dst=some k→(D y.i↔y.i < i):=by
 intro y hy hd
 obtain ⟨q,hq⟩:=List.mem_iff_getElem?.1 hy
 obtain ⟨e1,e2⟩:=ho.idx q y hq
 rw [←e1] at e2
 constructor
 ·intro hD
  rcases Nat.lt_trichotomy y.i i with h | h | h
  ·exact h
  ·exact absurd (h ▸ hD) hn.not
  ·exact absurd hk ((Oper.apart_spec (ho.apart i y.i o y.o h hn.at_ e2 (hn.later hD))).2.2 k hd)
 ·intro hlt
  by_cases hD:D y.i
  ·exact hD
  ·exact absurd hk ((Oper.apart_spec (ho.apart y.i i y.o o hlt e2 hn.at_ (hn.earlier hD))).1 k hd)
theorem Next.root (ho:Ord all sts) {D:Nat→Prop} {i:Nat} {o:Oper} (hn:Next all D i o) {x:Stp} (hx:sts[i]? = some x) {r:Rid} (hr:r ∈ x.rd):∀ y ∈ sts,r ∈ y.wr.map (·.1)→(D y.i↔y.i < i):=by
 intro y hy hd
 have hxm:=List.mem_of_getElem? hx
 have hxi:=(ho.idx i x hx).1
 constructor
 ·intro hD
  rcases Nat.lt_trichotomy y.i i with h | h | h
  ·exact h
  ·exact absurd (h ▸ hD) hn.not
  ·exact absurd hr (ho.rd x hxm y hy (by rw [hxi];exact h) (by rw [hxi];exact hn.later hD) r hd)
 ·intro hlt
  by_cases hD:D y.i
  ·exact hD
  ·exact absurd hr (ho.wr y hy x hxm (by rw [hxi];exact hlt) (by rw [hxi];exact hn.earlier hD) r hd).1
theorem Next.behind (ho:Ord all sts) {D D':Nat→Prop} [DecidablePred D] [DecidablePred D'] {i:Nat} {o:Oper} (hn:Next all D i o) (hD':∀ j,D' j↔D j∨j=i) {x:Stp} (hx:sts[i]? = some x) :
  (∀ k,look k (runD D' sts s).t=look k (x.on (runD D sts s)).t)∧∀ r,look r (runD D' sts s).h=look r (x.on (runD D sts s)).h:=by
 obtain ⟨hxi,hxo⟩:=ho.idx i x hx
 have hxo':x.o=o:=by rw [hn.at_] at hxo;injection hxo with h;exact h.symm
 obtain ⟨hlt,hxe⟩:=List.getElem?_eq_some_iff.1 hx
 have hsplit:sts=sts.take i++x :: sts.drop (i + 1):=by rw [←hxe];simp
 have hxm:=List.mem_of_getElem? hx
 have hlater:∀ y ∈ sts.drop (i + 1),i < y.i∧y ∈ sts:=by
  intro y hy
  obtain ⟨q,hq⟩:=List.mem_iff_getElem?.1 hy
  rw [List.getElem?_drop] at hq
  have:=(ho.idx _ y hq).1
  exact ⟨by omega,List.mem_of_getElem? hq⟩
 have hsame:∀ y ∈ sts,y.i=i→y=x:=by
  intro y hy he
  obtain ⟨q,hq⟩:=List.mem_iff_getElem?.1 hy
  have:=(ho.idx q y hq).1
  have hqi:q=i:=by omega
  subst hqi
  rw [hx] at hq
  injection hq with hq
  exact hq.symm
 constructor
 ·intro k
  rw [on_t,look_putT]
  split
  ·rename_i hk
   refine runD_last_t (D:=D') hk ((hD' _).2 (.inr hxi)) hsplit (fun y hy hDy hd => ?_)
   obtain ⟨h1,h2⟩:=hlater y hy
   have hDy':D y.i:=((hD' _).1 hDy).resolve_right (by omega)
   obtain ⟨q,hq⟩:=List.mem_iff_getElem?.1 h2
   obtain ⟨e1,e2⟩:=ho.idx q y hq
   rw [←e1] at e2
   exact (Oper.apart_spec (ho.apart i y.i x.o y.o h1 hxo e2 (hn.later hDy'))).2.1 k hk hd
  ·rename_i hk
   refine runD_t (fun y hy hd => ?_) rfl
   rw [hD']
   constructor
   ·rintro (h | h)
    ·exact h
    ·exact absurd (hsame y hy h ▸ hd) hk
   ·exact .inl
 ·intro r
  rw [on_h]
  by_cases hk:r ∈ x.wr.map (·.1)
  ·refine runD_last_h (D:=D') hk ((hD' _).2 (.inr hxi)) hsplit (fun y hy hDy hd => ?_) _
   obtain ⟨h1,h2⟩:=hlater y hy
   have hDy':D y.i:=((hD' _).1 hDy).resolve_right (by omega)
   exact (ho.wr x hxm y h2 (by omega) (by rw [hxi];exact hn.later hDy') r hk).2 hd
  ·rw [look_applyWr,lastWr_none.2 hk]
   refine runD_h (fun y hy hd => ?_) rfl
   rw [hD']
   constructor
   ·rintro (h | h)
    ·exact h
    ·exact absurd (hsame y hy h ▸ hd) hk
   ·exact .inl
end

section
variable {X:Fix} {s s':St} {a:Act} {w:World} {T:Types} {M:Modes} {C:FuncId→List AV→AV→List AV→Prop} {all:Array Oper} {l':Log} {sts:List Stp}
abbrev Listed (listed:Array Bool) (j:Nat):Prop:=listed.getD j false=true
theorem guardAV_ag {s s':St} {j:Nat} {o:Oper} {want:Bool} (hg:o.guard=some (j,want)) (h:∀ k ∈ o.looksAt all,look k s'.t=look k s.t):guardAV all j s'=guardAV all j s:=by
 unfold guardAV
 split
 ·rename_i d hd
  exact h d (by simp [Oper.looksAt,hg,hd])
 ·rfl
theorem Wants.ag {s s':St} {o:Oper} {b:Bool} (hw:Wants all s o b) (h:∀ k ∈ o.looksAt all,look k s'.t=look k s.t):Wants all s' o b:=by
 rcases hw with h1 | ⟨j,want,x,h1,h2,h3⟩
 ·exact .inl h1
 ·exact .inr ⟨j,want,x,h1,by rw [guardAV_ag h1 h];exact h2,h3⟩
theorem Wants.wanted {D:Nat→Prop} {s:St} {o:Oper} {b:Bool} (hw:Wants all s o b) (hs:Sim X D s a w):Region.wanted o (yielded all a.tmps)=b:=by
 rcases hw with ⟨h1,rfl⟩ | ⟨j,want,x,h1,h2,⟨c,rfl,rfl⟩ | ⟨rfl,rfl⟩⟩
 ·simp [Region.wanted,h1]
 ·have:=(guard_sound hs h2).1 c rfl
  simp only [Region.wanted,h1,this]
  cases c<;>cases want<;>rfl
 ·have:=(guard_sound hs h2).2 rfl
  simp [Region.wanted,h1,this]
theorem evAg_of {s s':St} {o:Oper} (h:∀ k ∈ o.looksAt all,look k s'.t=look k s.t):EvAg s s' o.op.operands.toList:=by
 intro x hx
 cases x with
 | tmp k=>
  simp only [St.ev]
  refine h k ?_
  simp only [Oper.looksAt,List.mem_append,List.mem_filterMap]
  exact .inl ⟨.tmp k,hx,rfl⟩
 | _=>rfl
theorem drawn_step (hT:TOk X.P T) (hC:Sound X.P C) (ht:Trace T M C all all.toList 0 s [] sts s' l') (ho:Ord all sts) {Qw:Exit→Act→World→Prop} {p:Nat→Bool} {a0:Act} (hd:∀ o ∈ all.toList,∀ d,o.dst=some d→d < a0.tmps.size∧p d=false)
  {listed:Array Bool} {i:Nat} {o:Oper} (hn:Next all (Listed listed) i o) (hlt:i < listed.size) (hs:Sim X (Listed listed) (runD (Listed listed) sts s) a w) (hsz:Kept p a0 a) {K:Act→World→Prop}
  (hK:∀ a' w',Sim X (Listed (listed.setIfInBounds i true)) (runD (Listed (listed.setIfInBounds i true)) sts s) a' w'→Kept p a0 a'→K a' w'):wpOp X.P all Qw i K a w:=by
 have hD':∀ j,Listed (listed.setIfInBounds i true) j↔Listed listed j∨j=i:=by
  intro j
  simp only [Listed,Array.getD_eq_getD_getElem?,Array.getElem?_setIfInBounds]
  by_cases hj:i=j
  ·subst hj;simp [hlt]
  ·simp [hj,Ne.symm hj]
 have hil:i < sts.length:=by rw [ho.len];exact (Array.getElem?_eq_some_iff.1 hn.at_).1
 obtain ⟨x,hx⟩:∃ x,sts[i]? = some x:=⟨_,List.getElem?_eq_getElem hil⟩
 obtain ⟨hxi,hxo⟩:=ho.idx i x hx
 have hxo':x.o=o:=by rw [hn.at_] at hxo;injection hxo with h;exact h.symm
 have hsplit:sts=sts.take i++x :: sts.drop (i + 1):=by
  obtain ⟨_,hxe⟩:=List.getElem?_eq_some_iff.1 hx
  rw [←hxe];simp
 obtain ⟨hw,htk,-,-⟩:=ht.at _ _ _ hsplit
 have hpre:runD (fun j=>j < i) sts s=runD (fun _=>True) (sts.take i) s:=by
  conv=>lhs;rw [hsplit]
  refine runD_prefix (fun y hy => ?_) (fun y hy => ?_)
  ·obtain ⟨q,hq⟩:=List.mem_iff_getElem?.1 hy
   rw [List.getElem?_take] at hq
   split at hq
   ·have:=(ho.idx q y hq).1;omega
   ·cases hq
  ·rcases List.mem_cons.1 hy with rfl | hy
   ·omega
   ·obtain ⟨q,hq⟩:=List.mem_iff_getElem?.1 hy
    rw [List.getElem?_drop] at hq
    have:=(ho.idx _ y hq).1
    omega
 rw [←hpre] at hw htk
 have hlook:∀ k ∈ o.looksAt all,look k (runD (Listed listed) sts s).t=look k (runD (fun j=>j < i) sts s).t:=fun k hk=>runD_t (fun y hy hd=>hn.slot ho hk y hy hd) rfl
 rw [hxo'] at hw
 have hw':=hw.ag hlook
 have hdo:∀ d,o.dst=some d→d < a.tmps.size:=fun d hdd=>by
  rw [hsz.1]
  exact (hd o (by rw [Array.mem_toList_iff];exact Array.mem_of_getElem? hn.at_) d hdd).1
 have hdp:∀ d,o.dst=some d→p d=false:=fun d hdd=>(hd o (by rw [Array.mem_toList_iff];exact Array.mem_of_getElem? hn.at_) d hdd).2
 have hbeh:=hn.behind (s:=s) ho hD' hx
 unfold wpOp
 rw [hn.at_]
 simp only
 rw [hw'.wanted hs]
 cases he:x.e with
 | none=>
  simp only [Option.isSome_none,Bool.false_eq_true,if_false]
  refine hK _ _ ?_ (hsz.put hdp)
  have:=(hs.skip (dst:=o.dst) hdo).mono (D':=Listed (listed.setIfInBounds i true)) (fun j hj=>(hD' j).2 (.inl hj))
  refine this.ext (fun k => ?_) (fun r => ?_)
  ·rw [hbeh.1 k];simp only [Stp.on,he,hxo']
  ·rw [hbeh.2 r];simp only [Stp.on,he,hxo']
 | some e=>
  simp only [Option.isSome_some,if_true]
  obtain ⟨h1,-⟩:=htk e he
  rw [hxi,hxo'] at h1
  have h2:Takes T M C (runD (Listed listed) sts s) i o e:=takes_ag h1 (evAg_of hlook) (fun r hr=>runD_h (fun y hy hd=>hn.root ho hx (by simp only [Stp.rd,he];exact hr) y hy hd) rfl)
  refine .inl (takes_step hT hC hs hn.not hdo h2 (fun v w' hs' => ?_))
  refine hK _ _ ?_ (hsz.put hdp)
  have:=hs'.mono (D':=Listed (listed.setIfInBounds i true)) (fun j hj=>(hD' j).2 hj)
  refine this.ext (fun k => ?_) (fun r => ?_)
  ·rw [hbeh.1 k];simp only [Stp.on,he,hxo']
  ·rw [hbeh.2 r];simp only [Stp.on,he,hxo']
theorem aops_drawn (hT:TOk X.P T) (hC:Sound X.P C) (ht:Trace T M C all all.toList 0 s [] sts s' l') (ho:Ord all sts) {Qw:Exit→Act→World→Prop} {p:Nat→Bool} {a0:Act} (hd:∀ o ∈ all.toList,∀ d,o.dst=some d→d < a0.tmps.size∧p d=false)
  (hQ:∀ a' w',Sim X (fun _=>True) s' a' w'→Kept p a0 a'→Qw .normal a' w') :
  ∀ (fuel:Nat) (listed:Array Bool) (a:Act) (w:World),listed.size=all.size→(∀ j o,Listed listed j→all[j]? = some o→∀ e ∈ o.after.toList,Region.binds .any e=true→Listed listed e.on)→
   listed.toList.countP (fun b => !b)≤fuel→Sim X (Listed listed) (runD (Listed listed) sts s) a w→Kept p a0 a→wpAny X.P .any all Qw fuel listed a w:=by
 have hend:∀ (listed:Array Bool) (a:Act) (w:World),listed.size=all.size→(∀ j,j < all.size→Listed listed j)→Sim X (Listed listed) (runD (Listed listed) sts s) a w→Kept p a0 a→Qw .normal a w:=by
  intro listed a w hsz hall hs h1
  refine hQ a w ?_ h1
  have hmem:∀ x ∈ sts,Listed listed x.i↔True:=fun x hx=>by
   obtain ⟨q,hq⟩:=List.mem_iff_getElem?.1 hx
   have:=(ho.idx q x hq).1
   exact ⟨fun _=>trivial,fun _=>hall x.i (by rw [this,←ho.len];exact lt_len hq)⟩
  rw [←ht.runAll]
  exact (hs.mono fun _ _=>trivial).ext (fun k=>(runD_t (fun x hx _=>hmem x hx) rfl).symm) (fun r=>(runD_h (fun x hx _=>hmem x hx) rfl).symm)
 have hready:∀ (listed:Array Bool),listed.size=all.size→Region.ready .any all listed = []→∀ j,j < all.size→Listed listed j:=by
  intro listed hsz hr j
  induction j using Nat.strongRecOn with
  | ind j ih=>
   intro hj
   by_cases hl:Listed listed j
   ·exact hl
   ·exfalso
    have:j ∈ Region.ready .any all listed:=by
     rw [mem_ready]
     refine ⟨?_,all[j],by simp [hj],fun e he hb => ?_⟩
     ·have hlt:j < listed.size:=by omega
      simp only [Listed,Array.getD_eq_getD_getElem?,Array.getElem?_eq_getElem hlt,Option.getD_some] at hl ⊢
      simpa using hl
     ·have hlt:=ho.edge j all[j] (by simp [hj]) e (by simpa using he) hb
      exact ih e.on hlt (by omega)
    rw [hr] at this
    cases this
 intro fuel
 induction fuel with
 | zero=>
  intro listed a w hsz hcl hc hs h1
  have hall:∀ j,j < all.size→Listed listed j:=by
   intro j hj
   have hlt:j < listed.size:=by omega
   have h0:listed.toList.countP (fun b => !b)=0:=by omega
   rw [List.countP_eq_zero] at h0
   have:=h0 listed[j] (by simp)
   simp only [Listed,Array.getD_eq_getD_getElem?,Array.getElem?_eq_getElem hlt,Option.getD_some]
   simpa using this
  refine ⟨?_,hend listed a w hsz hall hs h1⟩
  cases hr:Region.ready .any all listed with
  | nil=>rfl
  | cons j js=>
   exfalso
   have:j ∈ Region.ready .any all listed:=by rw [hr];simp
   obtain ⟨k1,o,k2,-⟩:=mem_ready.1 this
   have hj:j < all.size:=(Array.getElem?_eq_some_iff.1 k2).1
   have hlt:j < listed.size:=by omega
   have:=hall j hj
   simp only [Listed,Array.getD_eq_getD_getElem?,Array.getElem?_eq_getElem hlt,Option.getD_some] at this k1
   rw [this] at k1
   cases k1
 | succ fuel ih=>
  intro listed a w hsz hcl hc hs h1
  refine ⟨fun hr=>hend listed a w hsz (hready listed hsz hr) hs h1,fun i hi => ?_⟩
  obtain ⟨k1,o,k2,k3⟩:=mem_ready.1 hi
  have hilt:i < listed.size:=by rw [hsz];exact (Array.getElem?_eq_some_iff.1 k2).1
  have hnot:¬ Listed listed i:=by
   simp only [Listed,Array.getD_eq_getD_getElem?,Array.getElem?_eq_getElem hilt,Option.getD_some] at k1 ⊢
   simp [k1]
  have hn:Next all (Listed listed) i o:=⟨hcl,k2,hnot,fun e he hb=>k3 e (by simpa using he) hb⟩
  have hD':∀ j,Listed (listed.setIfInBounds i true) j↔Listed listed j∨j=i:=by
   intro j
   simp only [Listed,Array.getD_eq_getD_getElem?,Array.getElem?_setIfInBounds]
   by_cases hj:i=j
   ·subst hj;simp [hilt]
   ·simp [hj,Ne.symm hj]
  refine drawn_step hT hC ht ho hd hn hilt hs h1 (fun a' w' hs' h3=>ih _ a' w' (by simp [hsz]) ?_ ?_ hs' h3)
  ·intro j o' hj ho' e he hb
   rw [hD'] at hj ⊢
   rcases hj with hj | rfl
   ·exact .inl (hcl j o' hj ho' e he hb)
   ·rw [k2] at ho'
    injection ho' with ho'
    subst ho'
    exact .inl (k3 e (by simpa using he) hb)
  ·have hgi:listed.toList[i]'(by simpa using hilt)=false:=by
    simp only [Array.getD_eq_getD_getElem?,Array.getElem?_eq_getElem hilt,Option.getD_some] at k1
    simpa using k1
   rw [Array.toList_setIfInBounds,List.countP_set (by simpa using hilt)]
   rw [hgi]
   simp only [Bool.not_false,Bool.not_true,if_true,Bool.false_eq_true,if_false]
   omega
end

section
variable {X:Fix} {D:Nat→Prop} {s s':St} {a:Act} {w:World}
theorem Sim.sub (hs:Sim X D s a w) (ht:∀ k,look k s'.t=look k s.t∨look k s'.t=none) (hh:∀ r,look r s'.h=look r s.h∨look r s'.h=none):Sim X D s' a w:=by
 obtain ⟨hl,hS,ρ,Fr,m,htm⟩:=hs
 have hc:∀ r,Compat w s.h ρ w s'.h ρ r:=fun r=>by
  rcases hh r with h | h
  ·exact Compat.still h rfl (fun _ _ _=>rfl)
  ·exact Compat.gone h
 have hh':∀ r x,look r s'.h=some x→look r s.h=some x:=fun r x hr=>by
  rcases hh r with h | h
  ·rw [←h];exact hr
  ·rw [h] at hr;cases hr
 have ht':∀ k v,look k s'.t=some v→look k s.t=some v:=fun k v hk=>by
  rcases ht k with h | h
  ·rw [←h];exact hk
  ·rw [h] at hk;cases hk
 refine ⟨?_,hS,ρ,Fr,?_,?_⟩
 ·rintro r (⟨k,v,hk,hr⟩ | ⟨q,x,hq,hr⟩)
  ·exact hl r (.inl ⟨k,v,ht' k v hk,hr⟩)
  ·exact hl r (.inr ⟨q,x,hh' q x hq,hr⟩)
 ·refine ⟨m.os,m.tape,m.out,m.size,m.frame,fun r x hr => ?_,fun r x b hr=>m.foot r x b (hh' r x hr),fun r x r' x' b hr hr'=>m.disj r x r' x' b (hh' r x hr) (hh' r' x' hr')⟩
  have:=m.root r x (hh' r x hr)
  cases x with
  | row sz xs dt=>exact this
  | box cs=>
   obtain ⟨g,vs,ty,fr,h4,h5,h6,h7,h8,h8',h9,h10⟩:=this
   exact ⟨g,vs,ty,fr,h4,h5,h6,h7,h8,h8',h9,fun k a hk=>by
    obtain ⟨v,h11,h12⟩:=h10 k a hk
    exact ⟨v,h11,h12.upd (fun _ _ _=>rfl) (fun q _=>hc q)⟩⟩
 ·intro k v hk
  obtain ⟨h1,h2⟩:=htm k v (ht' k v hk)
  exact ⟨h1,h2.upd (fun _ _ _=>rfl) (fun r _=>hc r)⟩
theorem look_keepT {p:Nat→Bool} {k:Nat}:∀ {t:List (Nat × AV)},look k (keepT p t)=look k t∨look k (keepT p t)=none
 | [] => .inl rfl
 |(q,v) :: t=>by
  have ih:=look_keepT (p:=p) (k:=k) (t:=t)
  simp only [keepT]
  by_cases hp:p q=true
  ·rw [if_pos hp]
   simp only [look]
   split
   ·exact .inl rfl
   ·exact ih
  ·rw [if_neg hp]
   simp only [look]
   split
   ·rename_i hk
    subst hk
    right
    have:∀ t:List (Nat × AV),look k (keepT p t)=none:=by
     intro t
     induction t with
     | nil=>rfl
     | cons x t ih2=>
      obtain ⟨q2,v2⟩:=x
      simp only [keepT]
      split
      ·rename_i hp2
       simp only [look]
       split
       ·rename_i hk2
        subst hk2
        exact absurd hp2 hp
       ·exact ih2
      ·exact ih2
    exact this t
   ·exact ih
theorem look_keepH {rs:List Rid} {k:Nat}:∀ {h:Heap},look k (keepH rs h)=if memR k rs=true then look k h else none
 | []=>by simp [keepH,look]
 |(q,v) :: h=>by
  have ih:=look_keepH (rs:=rs) (k:=k) (h:=h)
  simp only [keepH]
  split
  ·rename_i hp
   simp only [look]
   split
   ·rename_i hk;subst hk;rw [if_pos hp]
   ·exact ih
  ·rename_i hp
   rw [ih]
   split
   ·rename_i hm
    simp only [look]
    split
    ·rename_i hk;subst hk;exact absurd hm hp
    ·rfl
   ·rfl
theorem Sim.gc (hs:Sim X D s a w):Sim X D (gc s) a w:=
 hs.sub (fun k => .inl rfl) (fun r=>by
  show look r (keepH _ s.h)=look r s.h∨_
  rw [look_keepH]
  split
  ·exact .inl rfl
  ·exact .inr (by rw [show (Go.Fw.gc s).h=keepH _ s.h from rfl,look_keepH];rename_i h;exact if_neg h))
end

theorem look_renT {a b:Rid} {k:Nat}:∀ {t:List (Nat × AV)},look k (renT a b t)=(look k t).map (ren a b)
 | []=>rfl
 |(q,v) :: t=>by
  simp only [renT,look]
  split
  ·rfl
  ·exact look_renT
theorem look_renH {a b:Rid} {k:Nat}:∀ {h:Heap},look k (renH a b h)=(look k h).map (renRoot a b)
 | []=>rfl
 |(q,v) :: h=>by
  simp only [renH,look]
  split
  ·rfl
  ·exact look_renH
def sig (a b r:Rid):Rid:=if r=a then b else r
structure Renamed (a b:Rid) (h h':Heap) (ρ ρ':Rho):Prop where
 look:∀ r,r≠b→Go.Fw.look (sig a b r) h'=(Go.Fw.look r h).map (renRoot a b)
 rho:∀ r,r≠b→ρ' (sig a b r)=ρ r
section
variable {a b:Rid} {w:World} {S:Nat→Prop} {h h':Heap} {ρ ρ':Rho}
theorem Renamed.getRow (hr:Renamed a b h h' ρ ρ') {r:Rid} (hb:r≠b) (p:Path):Go.Fw.getRow h' (sig a b r) p=Go.Fw.getRow h r p:=by
 unfold Go.Fw.getRow
 rw [hr.look r hb]
 cases Go.Fw.look r h with
 | none=>rfl
 | some x=>cases x<;>rfl
theorem Renamed.refAt (hr:Renamed a b h h' ρ ρ') {r:Rid} (hb:r≠b) {p:Path} {bc:Option Nat × Nat} (hf:refAt w h ρ r p bc):refAt w h' ρ' (sig a b r) p bc:=by
 unfold Go.Fw.refAt at hf ⊢
 rw [hr.look r hb,hr.rho r hb]
 cases hl:Go.Fw.look r h with
 | none=>rw [hl] at hf;exact hf.elim
 | some x=>
  rw [hl] at hf
  cases x with
  | row sz xs dt=>exact hf
  | box cs=>exact hf.elim
theorem Renamed.ptrAt (hr:Renamed a b h h' ρ ρ') {r:Rid} (hb:r≠b) {p:Path} {i g o:Nat} (hf:ptrAt w h ρ r p i g o):ptrAt w h' ρ' (sig a b r) p i g o:=by
 unfold Go.Fw.ptrAt at hf ⊢
 rw [hr.look r hb,hr.rho r hb]
 cases hl:Go.Fw.look r h with
 | none=>rw [hl] at hf;exact hf.elim
 | some x=>
  rw [hl] at hf
  cases x with
  | row sz xs dt=>exact hf
  | box cs=>exact hf
theorem Renamed.getChunk (hr:Renamed a b h h' ρ ρ') {r:Rid} (hb:r≠b) {p:Path} {i:Nat} {c:List AV} (hg:Go.Fw.getChunk h' (sig a b r) p i=some c):∃ c,Go.Fw.getChunk h r p i=some c:=by
 unfold Go.Fw.getChunk at hg ⊢
 rw [hr.look r hb] at hg
 cases hl:Go.Fw.look r h with
 | none=>rw [hl] at hg;cases hg
 | some x=>
  rw [hl] at hg
  cases x with
  | row sz xs dt=>exact ⟨c,hg⟩
  | box cs=>
   simp only [Option.map_some,renRoot] at hg
   split at hg
   ·exact ⟨cs,rfl⟩
   ·cases hg
theorem VA.ren (hr:Renamed a b h h' ρ ρ') {x:AV} {v:Value} (hv:VA w S h ρ x v) (hb:b ∉ rid1 x):VA w S h' ρ' (ren1 a b x) v:=by
 cases hv with
 | fv hf=>
  have:ren1 a b x=x:=by cases hf<;>rfl
  rw [this]
  exact .fv hf
 | @ref r p sz off n nl _ h1 h2 h3=>
  have hne:r≠b:=fun e=>hb (by simp [rid1,e])
  refine .ref (fun sz' ys hg => ?_) h2 h3
  have hg':Go.Fw.getRow h' (sig a b r) p=some (sz',ys):=hg
  rw [hr.getRow hne] at hg'
  obtain ⟨g1,g2,bc,g3,g4⟩:=h1 sz' ys hg'
  exact ⟨g1,g2,bc,hr.refAt hne g3,g4⟩
 | @ptr r p i j _ h1 h2=>
  have hne:r≠b:=fun e=>hb (by simp [rid1,e])
  refine .ptr (fun c hg => ?_) h2
  obtain ⟨c',hc'⟩:=hr.getChunk (p:=p) (i:=i) (c:=c) hne hg
  obtain ⟨g,o,g1,g2⟩:=h1 c' hc'
  exact ⟨g,o,hr.ptrAt hne g1,g2⟩
theorem VB.ren (hr:Renamed a b h h' ρ ρ') {x:AV} {v:Value} (hv:VB w S h ρ x v) (hb:b ∉ rid2 x):VB w S h' ρ' (ren2 a b x) v:=by
 cases hv with
 | up hv=>
  rw [hv.rids_eq.2] at hb
  have h1:=hv.ren hr hb
  by_cases hx:(∃ cs,x = .agg cs)∨∃ f cs,x = .fn f cs
  ·cases hv with
   | fv hf=>
    rcases hx with ⟨cs,rfl⟩ | ⟨f,cs,rfl⟩
    ·cases hf with
     | agg hn hc=>exact .agg (by simp [hn]) (fun k c u h2 h3=>by
       simp only [List.getElem?_map,Option.map_eq_some_iff] at h2
       obtain ⟨c0,h4,rfl⟩:=h2
       exact (VA.fv (hc k c0 u h4 h3)).ren hr (by rw [(hc k c0 u h4 h3).norid.1];simp))
    ·cases hf with
     | fn hn hc=>exact .fn (by simp [hn]) (fun k c u h2 h3=>by
       simp only [List.getElem?_map,Option.map_eq_some_iff] at h2
       obtain ⟨c0,h4,rfl⟩:=h2
       exact (VA.fv (hc k c0 u h4 h3)).ren hr (by rw [(hc k c0 u h4 h3).norid.1];simp))
   | ref=>rcases hx with ⟨_,h⟩ | ⟨_,_,h⟩<;>cases h
   | ptr=>rcases hx with ⟨_,h⟩ | ⟨_,_,h⟩<;>cases h
  ·have:ren2 a b x=ren1 a b x:=by
    cases x<;>first | rfl | exact absurd (.inl ⟨_,rfl⟩) hx | exact absurd (.inr ⟨_,_,rfl⟩) hx
   rw [this]
   exact .up h1
 | agg hn hc=>
  refine .agg (by simp [hn]) (fun k c u h2 h3 => ?_)
  simp only [List.getElem?_map,Option.map_eq_some_iff] at h2
  obtain ⟨c0,h4,rfl⟩:=h2
  exact (hc k c0 u h4 h3).ren hr (fun hm=>hb (by simp only [rid2,List.mem_flatMap];exact ⟨c0,List.mem_of_getElem? h4,hm⟩))
 | fn hn hc=>
  refine .fn (by simp [hn]) (fun k c u h2 h3 => ?_)
  simp only [List.getElem?_map,Option.map_eq_some_iff] at h2
  obtain ⟨c0,h4,rfl⟩:=h2
  exact (hc k c0 u h4 h3).ren hr (fun hm=>hb (by simp only [rid2,List.mem_flatMap];exact ⟨c0,List.mem_of_getElem? h4,hm⟩))
theorem VR.ren (hr:Renamed a b h h' ρ ρ') {x:AV} {v:Value} (hv:VR w S h ρ x v) (hb:b ∉ rids x):VR w S h' ρ' (ren a b x) v:=by
 cases hv with
 | up hv=>
  rw [hv.rids_eq] at hb
  have h1:=hv.ren hr hb
  have:Go.Fw.ren a b x=ren2 a b x:=by
   cases hv with
   | up hv=>cases hv with
    | fv hf=>cases hf<;>rfl
    | ref=>rfl
    | ptr=>rfl
   | agg=>rfl
   | fn=>rfl
  rw [this]
  exact .up h1
 | tup hn hc=>
  refine .tup (by simp [hn]) (fun k c u h2 h3 => ?_)
  simp only [List.getElem?_map,Option.map_eq_some_iff] at h2
  obtain ⟨c0,h4,rfl⟩:=h2
  exact (hc k c0 u h4 h3).ren hr (fun hm=>hb (by simp only [rids,List.mem_flatMap];exact ⟨c0,List.mem_of_getElem? h4,hm⟩))
end
section
variable {X:Fix} {D:Nat→Prop} {s:St} {a:Act} {w:World}
theorem mem_ridsH' {h:Heap} {q:Rid} {x:Root} (hl:look q h=some x) {r:Rid} (hr:r ∈ ridsBox x):r ∈ ridsH h:=mem_ridsH hl r hr
theorem ren_lab {E:Rid→Prop} {a b:Rid} (hb:E b):∀ {x:AV},(∀ r ∈ rids x,E r)→∀ r ∈ rids (ren a b x),E r:=by
 have h1:∀ {x:AV},(∀ r ∈ rid1 x,E r)→∀ r ∈ rid1 (ren1 a b x),E r:=by
  intro x hx r hr
  cases x<;>first | exact hx r hr | skip
  ·simp only [ren1,rid1,List.mem_singleton] at hr
   subst hr
   split
   ·exact hb
   ·exact hx _ (by simp [rid1])
  ·simp only [ren1,rid1,List.mem_singleton] at hr
   subst hr
   split
   ·exact hb
   ·exact hx _ (by simp [rid1])
 have h1f:∀ {cs:List AV},(∀ r ∈ cs.flatMap rid1,E r)→∀ r ∈ (cs.map (ren1 a b)).flatMap rid1,E r:=by
  intro cs hx r hr
  simp only [List.mem_flatMap,List.mem_map] at hr
  obtain ⟨c,⟨c0,h2,rfl⟩,h3⟩:=hr
  exact h1 (fun q hq=>hx q (List.mem_flatMap.2 ⟨c0,h2,hq⟩)) r h3
 have h2:∀ {x:AV},(∀ r ∈ rid2 x,E r)→∀ r ∈ rid2 (ren2 a b x),E r:=by
  intro x hx r hr
  by_cases hagg:(∃ cs,x = .agg cs)∨∃ f cs,x = .fn f cs
  ·rcases hagg with ⟨cs,rfl⟩ | ⟨f,cs,rfl⟩
   ·exact h1f hx r hr
   ·exact h1f hx r hr
  ·have e1:rid2 x=rid1 x:=by
    cases x<;>first | rfl | exact absurd (.inl ⟨_,rfl⟩) hagg | exact absurd (.inr ⟨_,_,rfl⟩) hagg
   have e2:rid2 (ren2 a b x)=rid1 (ren1 a b x):=by
    cases x<;>first | rfl | exact absurd (.inl ⟨_,rfl⟩) hagg | exact absurd (.inr ⟨_,_,rfl⟩) hagg
   rw [e2] at hr
   rw [e1] at hx
   exact h1 hx r hr
 intro x hx r hr
 by_cases htup:∃ cs,x = .tup cs
 ·obtain ⟨cs,rfl⟩:=htup
  simp only [ren,rids,List.mem_flatMap,List.mem_map] at hr
  obtain ⟨c,⟨c0,h3,rfl⟩,h4⟩:=hr
  exact h2 (fun q hq=>hx q (by simp only [rids,List.mem_flatMap];exact ⟨c0,h3,hq⟩)) r h4
 ·have e1:rids x=rid2 x:=by
   cases x<;>first | rfl | exact absurd ⟨_,rfl⟩ htup
  have e2:rids (ren a b x)=rid2 (ren2 a b x):=by
   cases x<;>first | rfl | exact absurd ⟨_,rfl⟩ htup
  rw [e2] at hr
  rw [e1] at hx
  exact h2 hx r hr
theorem Sim.rename {p q:Rid} (hs:Sim X D s a w) (hq:LabR D q):Sim X D (rename p q s) a w:=by
 unfold Go.Fw.rename
 split
 rotate_left
 ·exact hs
 rename_i x hx
 split
 ·exact hs
 rename_i hnb
 split
 ·exact hs
 rename_i hnm
 obtain ⟨hl,hS,ρ,Fr,m,ht⟩:=hs
 have hq0:look q s.h=none:=by
  cases h:look q s.h with
  | none=>rfl
  | some y=>rw [h] at hnb;simp at hnb
 have hpq:p≠q:=fun e=>by rw [e,hq0] at hx;cases hx
 simp only [mentions,Bool.or_eq_true,memR_iff,not_or] at hnm
 have hmt:∀ k v,look k s.t=some v→q ∉ rids v:=fun k v hk h=>hnm.1 (mem_ridsT hk q h)
 have hmh:∀ r y,look r s.h=some y→q ∉ ridsBox y:=fun r y hy h=>hnm.2 (mem_ridsH hy q h)
 have hlook:∀ r,look r (put q (renRoot p q x) (renH p q (del p s.h)))=if r=q then some (renRoot p q x) else if r=p then none else (look r s.h).map (renRoot p q):=fun r=>by
  rw [look_put,look_renH,look_del]
  split
  ·rfl
  ·split<;>rfl
 have hR:Renamed p q s.h (put q (renRoot p q x) (renH p q (del p s.h))) ρ (fun r=>if r=q then ρ p else ρ r):=by
  refine ⟨fun r hr => ?_,fun r hr => ?_⟩
  ·rw [hlook]
   unfold sig
   by_cases hrp:r=p
   ·subst hrp;simp [hx]
   ·simp [hrp,hr]
  ·unfold sig
   by_cases hrp:r=p
   ·subst hrp;simp
   ·simp [hrp,hr]
 have hroot:∀ r y,r≠q→look r s.h=some y→RootOK X w (put q (renRoot p q x) (renH p q (del p s.h))) (fun r=>if r=q then ρ p else ρ r) (Fr r) (ρ r) (renRoot p q y):=by
  intro r y hr hy
  have:=m.root r y hy
  cases y with
  | row sz xs dt=>exact this
  | box cs=>
   obtain ⟨g,vs,ty,fr,h4,h5,h6,h7,h8,h8',h9,h10⟩:=this
   refine ⟨g,vs,ty,fr,h4,h5,h6,by simpa using h7,h8,h8',fun k hk=>h9 k (by simpa using hk),fun k c hk => ?_⟩
   simp only [List.getElem?_map,Option.map_eq_some_iff] at hk
   obtain ⟨c0,hk0,rfl⟩:=hk
   obtain ⟨v,h11,h12⟩:=h10 k c0 hk0
   refine ⟨v,h11,h12.ren hR (fun hm=>hmh r _ hy ?_)⟩
   simp only [ridsBox,List.mem_flatMap]
   exact ⟨c0,List.mem_of_getElem? hk0,hm⟩
 have hget:∀ r y,look r (put q (renRoot p q x) (renH p q (del p s.h)))=some y→∃ r0 y0,look r0 s.h=some y0∧y=renRoot p q y0∧r0≠q∧(r=q∧r0=p∨r≠q∧r≠p∧r0=r):=by
  intro r y hy
  rw [hlook] at hy
  split at hy
  ·rename_i h
   injection hy with hy
   exact ⟨p,x,hx,hy.symm,hpq, .inl ⟨h,rfl⟩⟩
  ·rename_i h
   split at hy
   ·cases hy
   ·rename_i h2
    simp only [Option.map_eq_some_iff] at hy
    obtain ⟨y0,h3,rfl⟩:=hy
    exact ⟨r,y0,h3,rfl,h, .inr ⟨h,h2,rfl⟩⟩
 refine ⟨?_,hS,fun r=>if r=q then ρ p else ρ r,fun r=>if r=q then Fr p else Fr r,?_,?_⟩
 ·rintro r (⟨k,v,hk,hr⟩ | ⟨r1,y,hy,hr⟩)
  ·simp only [look_renT,Option.map_eq_some_iff] at hk
   obtain ⟨v0,h1,rfl⟩:=hk
   exact ren_lab (E:=LabR D) hq (fun z hz=>hl z (.inl ⟨k,v0,h1,hz⟩)) r hr
  ·obtain ⟨r0,y0,h1,rfl,h2,h3⟩:=hget r1 y hy
   rcases hr with rfl | hr
   ·rcases h3 with ⟨rfl,rfl⟩ | ⟨-,-,rfl⟩
    ·exact hq
    ·exact hl _ (.inr ⟨_,y0,h1, .inl rfl⟩)
   ·cases y0 with
    | row sz xs dt=>simp [renRoot,ridsBox] at hr
    | box cs=>
     simp only [renRoot,ridsBox,List.mem_flatMap,List.mem_map] at hr
     obtain ⟨c,⟨c0,h4,rfl⟩,h5⟩:=hr
     have hc:∀ z ∈ rid2 c0,LabR D z:=fun z hz=>hl z (.inr ⟨r0,_,h1, .inr (by simp only [ridsBox,List.mem_flatMap];exact ⟨c0,h4,hz⟩)⟩)
     have:=ren_lab (E:=LabR D) (a:=p) (b:=q) hq (x := .tup [c0]) (fun z hz=>hc z (by simpa [rids] using hz)) r (by simpa [ren,rids] using h5)
     exact this
 ·refine ⟨m.os,m.tape,m.out,m.size,m.frame,fun r y hy => ?_,fun r y b hy hb => ?_,fun r y r' y' b hy hy' hb hb' => ?_⟩
  ·obtain ⟨r0,y0,h1,rfl,h2,h3⟩:=hget r y hy
   have:=hroot r0 y0 h2 h1
   rcases h3 with ⟨rfl,rfl⟩ | ⟨h3,-,rfl⟩
   ·simpa using this
   ·simpa [h3] using this
  ·obtain ⟨r0,y0,h1,rfl,h2,h3⟩:=hget r y hy
   rcases h3 with ⟨rfl,rfl⟩ | ⟨h3,-,rfl⟩
   ·exact m.foot r0 y0 b h1 (by simpa using hb)
   ·exact m.foot r0 y0 b h1 (by simpa [h3] using hb)
  ·obtain ⟨r0,y0,h1,rfl,h2,h3⟩:=hget r y hy
   obtain ⟨r0',y0',h1',rfl,h2',h3'⟩:=hget r' y' hy'
   have hb0:Fr r0 b:=by
    rcases h3 with ⟨rfl,rfl⟩ | ⟨h3,-,rfl⟩
    ·simpa using hb
    ·simpa [h3] using hb
   have hb0':Fr r0' b:=by
    rcases h3' with ⟨rfl,rfl⟩ | ⟨h3',-,rfl⟩
    ·simpa using hb'
    ·simpa [h3'] using hb'
   have:=m.disj r0 y0 r0' y0' b h1 h1' hb0 hb0'
   subst this
   rcases h3 with ⟨rfl,rfl⟩ | ⟨h3,h4,rfl⟩<;>rcases h3' with ⟨rfl,h5⟩ | ⟨h3',h4',h5⟩
   ·rfl
   ·exact absurd h5.symm h4'
   ·exact absurd h5 h4
   ·exact h5
 ·intro k v hk
  simp only [look_renT,Option.map_eq_some_iff] at hk
  obtain ⟨v0,h1,rfl⟩:=hk
  obtain ⟨h2,h3⟩:=ht k v0 h1
  exact ⟨h2,h3.ren hR (hmt k v0 h1)⟩
end

section
variable {X:Fix} {D:Nat→Prop} {s:St} {a:Act} {w:World}
theorem look_scrubT {g:Heap} {k:Nat}:∀ {t:List (Nat × AV)},look k (scrubT g t)=(look k t).map (scrub g)
 | []=>rfl
 |(q,v) :: t=>by
  simp only [scrubT,look]
  split
  ·rfl
  ·exact look_scrubT
theorem look_scrubH {g:Heap} {k:Nat}:∀ {h:Heap},look k (scrubH g h)=if isTemp k=true then none else (look k h).map (scrubRoot g)
 | []=>by simp [scrubH,look]
 |(q,v) :: h=>by
  have ih:=look_scrubH (g:=g) (k:=k) (h:=h)
  simp only [scrubH]
  split
  ·rename_i hq
   rw [ih]
   split
   ·rfl
   ·rename_i hk
    simp only [look]
    split
    ·rename_i e;subst e;exact absurd hq hk
    ·rfl
  ·rename_i hq
   simp only [look]
   split
   ·rename_i e
    subst e
    rw [if_neg hq]
    rfl
   ·exact ih
theorem Sim.renames (hs:Sim X D s a w):∀ {l:List (Rid × Rid)},(∀ x ∈ l,LabR D x.2)→Sim X D (Go.Fw.renames l s) a w:=by
 intro l
 induction l generalizing s with
 | nil=>intro _;exact hs
 | cons x l ih=>
  intro h
  obtain ⟨p,q⟩:=x
  simp only [Go.Fw.renames]
  exact ih (hs.rename (h (p,q) (by simp))) (fun y hy=>h y (by simp [hy]))
theorem wantsCells_rv {k:Nat}:∀ {m:Nat} {cs:List AV},∀ x ∈ wantsCells k m cs,∃ j,x.2=rv k j
 | m,[],x,hx=>by simp [wantsCells] at hx
 | m,c :: cs,x,hx=>by
  have ih:=wantsCells_rv (k:=k) (m:=m + 1) (cs:=cs)
  unfold wantsCells at hx
  split at hx
  ·rename_i e;cases e
  ·rename_i e
   injection e with e1 e2
   subst e2
   split at hx
   ·rcases List.mem_cons.1 hx with rfl | hx
    ·exact ⟨_,rfl⟩
    ·exact ih x hx
   ·exact ih x hx
  ·rename_i e
   injection e with e1 e2
   subst e2
   exact ih x hx
theorem lab_rv {D:Nat→Prop} {k j:Nat}:LabR D (rv k j):=fun h=>by rw [isTemp_rv] at h;cases h
theorem wants_rv {h:Heap} {k:Nat} {v:AV}:∀ x ∈ wants h k v,∃ j,x.2=rv k j:=by
 intro x hx
 unfold wants at hx
 split at hx
 ·split at hx
  ·simp at hx;exact ⟨0,by rw [hx]⟩
  ·simp at hx
 ·rcases List.mem_append.1 hx with hx | hx
  ·split at hx
   ·simp at hx;exact ⟨0,by rw [hx]⟩
   ·simp at hx
  ·split at hx
   ·exact wantsCells_rv x hx
   ·simp at hx
 ·simp at hx
theorem wantsT_lab {D:Nat→Prop} {h:Heap}:∀ {t:List (Nat × AV)},∀ x ∈ wantsT h t,LabR D x.2
 | [],x,hx=>by simp [wantsT] at hx
 |(k,v) :: t,x,hx=>by
  simp only [wantsT] at hx
  rcases List.mem_append.1 hx with hx | hx
  ·obtain ⟨j,hj⟩:=wants_rv x hx
   rw [hj]
   exact lab_rv
  ·exact wantsT_lab x hx
theorem Sim.renamed (hs:Sim X D s a w):Sim X D (Go.Fw.renamed s) a w:=hs.renames (fun x hx=>wantsT_lab x hx)
theorem stale_ref {h:Heap} {r:Rid} {p:Path} {m o n:Nat} {nl:Option Bool} (hst:stale1 h (.ref r p m o n nl)=false):isTemp r=false∧∀ sz xs dt,look r h=some (.row sz xs dt)→subRow sz xs [] p=subRow sz xs dt p:=by
 simp only [stale1,Bool.or_eq_false_iff] at hst
 refine ⟨hst.1,fun sz xs dt hl => ?_⟩
 cases p with
 | none=>rfl
 | some q=>
  obtain ⟨i,j⟩:=q
  have h2:=hst.2
  rw [hl] at h2
  simp only at h2
  simp only [subRow,h2]
  simp
theorem stale_ptr {h:Heap} {r:Rid} {p:Path} {m o:Nat} (hst:stale1 h (.ptr r p m o)=false):isTemp r=false∧∀ sz xs dt,look r h=some (.row sz xs dt)→subRow sz xs [] p=subRow sz xs dt p:=by
 simp only [stale1,Bool.or_eq_false_iff] at hst
 refine ⟨hst.1,fun sz xs dt hl => ?_⟩
 cases p with
 | none=>rfl
 | some q=>
  obtain ⟨i,j⟩:=q
  have h2:=hst.2
  rw [hl] at h2
  simp only at h2
  simp only [subRow,h2]
  simp
theorem VA.scrub {S:Nat→Prop} {h:Heap} {ρ:Rho} {x:AV} {v:Value} (hv:VA w S h ρ x v):VA w S (scrubH h h) ρ (scrub1 h x) v:=by
 cases hv with
 | fv hf=>
  have:scrub1 h x=x:=by cases hf<;>rfl
  rw [this]
  exact .fv hf
 | @ref r p sz off n nl _ h1 h2 h3=>
  unfold scrub1
  split
  ·obtain ⟨A,c,rfl,-⟩:=h3
   exact .fv (.unk rfl)
  ·rename_i hst
   obtain ⟨k1,k2⟩:=stale_ref (Bool.eq_false_iff.2 hst)
   have hl:look r (scrubH h h)=(look r h).map (scrubRoot h):=by rw [look_scrubH,if_neg (by simp [k1])]
   refine .ref (fun sz' ys hg => ?_) h2 h3
   cases hy:look r h with
   | none=>rw [hy] at hl;simp [getRow,hl] at hg
   | some y=>
    rw [hy] at hl
    cases y with
    | box cs=>simp [getRow,hl,scrubRoot] at hg
    | row szr xs dt=>
     simp only [getRow,hl,Option.map_some,scrubRoot] at hg
     rw [k2 _ _ _ hy] at hg
     obtain ⟨g1,g2,bc,g3,g4⟩:=h1 sz' ys (by simp only [getRow,hy];exact hg)
     refine ⟨g1,g2,bc,?_,g4⟩
     simp only [refAt,hy] at g3
     simp only [refAt,hl,Option.map_some,scrubRoot]
     exact g3
 | @ptr r p i j _ h1 h2=>
  unfold scrub1
  split
  ·obtain ⟨A,rfl⟩:=h2
   exact .fv (.unk rfl)
  ·rename_i hst
   obtain ⟨k1,k2⟩:=stale_ptr (Bool.eq_false_iff.2 hst)
   have hl:look r (scrubH h h)=(look r h).map (scrubRoot h):=by rw [look_scrubH,if_neg (by simp [k1])]
   refine .ptr (fun c hg => ?_) h2
   cases hy:look r h with
   | none=>rw [hy] at hl;simp [getChunk,hl] at hg
   | some y=>
    rw [hy] at hl
    cases y with
    | box cs=>
     simp only [getChunk,hl,Option.map_some,scrubRoot] at hg
     split at hg
     ·obtain ⟨g,o,g1,g2⟩:=h1 cs (by simp [getChunk,hy])
      refine ⟨g,o,?_,g2⟩
      simp only [ptrAt,hy] at g1
      simp only [ptrAt,hl,Option.map_some,scrubRoot]
      exact g1
     ·cases hg
    | row szr xs dt=>
     simp only [getChunk,hl,Option.map_some,scrubRoot] at hg
     rw [k2 _ _ _ hy] at hg
     obtain ⟨g,o,g1,g2⟩:=h1 c (by simp only [getChunk,hy];exact hg)
     refine ⟨g,o,?_,g2⟩
     simp only [ptrAt,hy] at g1
     simp only [ptrAt,hl,Option.map_some,scrubRoot]
     rw [k2 _ _ _ hy]
     exact g1
end

end Go.Fw
