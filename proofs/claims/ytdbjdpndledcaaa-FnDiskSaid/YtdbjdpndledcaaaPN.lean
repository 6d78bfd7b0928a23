import Derived.Test.YtdbjdpndledcaaaDat
import Derived.Test.YtdbjdpndledcaaaBase
namespace Go.Fw
set_option linter.unusedVariables false
theorem Snd.arg {P:Program} {f:FuncId} {pre post:List AV} {a a':AV} {res:AV} {outs:List AV} (hr:∀ w S F v,ArgR w S F a v→ArgR w S F a' v) (hg:∀ F v b k,Grant F a v b k↔Grant F a' v b k)
  (h:Snd P f (pre++a' :: post) res outs):Snd P f (pre++a :: post) res outs:=by
 refine ⟨by have:=h.1;simpa using this,fun w S vs F hvl hS hF1 hF2 hA => ?_⟩
 have hget:∀ (x:AV) (k:Nat) (b:AV),(pre++x :: post)[k]? = some b→(k=pre.length∧b=x)∨(k≠pre.length∧∀ y,(pre++y :: post)[k]? = some b):=by
  intro x k b hk
  by_cases e:k=pre.length
  ·subst e
   rw [List.getElem?_append_right (Nat.le_refl _)] at hk
   simp at hk
   exact .inl ⟨rfl,hk.symm⟩
  ·refine .inr ⟨e,fun y => ?_⟩
   rw [List.getElem?_append] at hk ⊢
   split
   ·rename_i hlt
    rw [if_pos hlt] at hk
    exact hk
   ·rename_i hlt
    rw [if_neg hlt] at hk
    obtain ⟨q,hq⟩:∃ q,k - pre.length=q + 1:=⟨k - pre.length - 1,by omega⟩
    rw [hq] at hk ⊢
    simpa using hk
 have hat:∀ x:AV,(pre++x :: post)[pre.length]? = some x:=fun x=>by simp
 have hgr:Granted F (pre++a' :: post) vs=Granted F (pre++a :: post) vs:=by
  funext b m
  apply propext
  constructor
  ·rintro ⟨k,x,u,g1,g2,g3⟩
   rcases hget a' k x g1 with ⟨rfl,rfl⟩ | ⟨-,h1⟩
   ·exact ⟨_,a,u,hat a,g2,(hg _ _ _ _).2 g3⟩
   ·exact ⟨k,x,u,h1 a,g2,g3⟩
  ·rintro ⟨k,x,u,g1,g2,g3⟩
   rcases hget a k x g1 with ⟨rfl,rfl⟩ | ⟨-,h1⟩
   ·exact ⟨_,a',u,hat a',g2,(hg _ _ _ _).1 g3⟩
   ·exact ⟨k,x,u,h1 a',g2,g3⟩
 have:=h.2 w S vs F (by simpa using hvl) hS hF1 hF2 (fun k x v hk hv=>by
  rcases hget a' k x hk with ⟨rfl,rfl⟩ | ⟨-,h1⟩
  ·exact hr _ _ _ _ (hA _ a v (hat a) hv)
  ·exact hA k x v (h1 a) hv)
 rw [hgr] at this
 exact this
theorem Snd.nil_arg {P:Program} {f:FuncId} {pre post:List AV} {sz:Nat} {nl:Option Bool} {res:AV} {outs:List AV} (hn:nl≠some false) (h:Snd P f (pre ++ .frz sz nl [] :: post) res outs):Snd P f (pre ++ .frz 0 (some true) [] :: post) res outs:=by
 refine Snd.arg (a := .frz 0 (some true) []) (a' := .frz sz nl []) (fun w S F v hv => ?_) (fun F v b k=>Iff.rfl) h
 have hf:FV w S (.frz 0 (some true) []) v:=hv
 have he:v = .slice none 0 0:=by
  cases hf with
  | frz h1 h2=>
   cases h1 with
   | nil=>rfl
   | row=>have:=h2 true rfl;simp [nilV] at this
 subst he
 exact FV.frz (.nil _) (fun b hb=>by
  cases b with
  | true=>rfl
  | false=>exact absurd hb hn)
end Go.Fw
