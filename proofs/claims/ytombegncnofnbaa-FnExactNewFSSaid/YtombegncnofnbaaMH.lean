/- Plain law: what the draws make: access control lists. -/
import Derived.Test.YtombegncnofnbaaM01
import Derived.Test.YtombegncnofnbaaMG
namespace Go.Fw
set_option linter.unusedVariables false
set_option linter.unusedSimpArgs false
def aclKeys:List (Int × Int) := [(1,1),(1,2),(1,3),(2,1),(2,2),(2,3)]
def aclStep (p:List DAcl × DCur) (k:Int × Int):List DAcl × DCur:=
 if (onceC p.2 3).1=true∧p.1.length < 4 then (p.1 ++ [⟨k.1,k.2,(belowC (onceC p.2 3).2 8).1⟩],(belowC (onceC p.2 3).2 8).2) else (p.1,(onceC p.2 3).2)
def drawAcl (c:DCur):List DAcl × DCur:=
 if (onceC c 3).1=true then ([],(onceC c 3).2) else
  let p:=aclKeys.foldl aclStep ([],(onceC c 3).2)
  (p.1 ++ [⟨3,0,(pickC (0:Int) p.2 [7,7,6,5,4,0]).1⟩],(pickC (0:Int) p.2 [7,7,6,5,4,0]).2)
theorem aclAt_snoc {l:List DAcl} {e:DAcl} (h:∀ i < l.length,AclAt l i) (he:AclOK e) (hl:∀ d,l.getLast? = some d→AclLt d e):∀ i < (l ++ [e]).length,AclAt (l ++ [e]) i:=by
 intro i hi x hx
 rw [List.length_append,List.length_singleton] at hi
 by_cases hlt:i < l.length
 ·rw [List.getElem?_append_left hlt] at hx
  obtain ⟨h1,h2⟩:=h i hlt x hx
  refine ⟨h1,fun d j hj hd=>h2 d j hj ?_⟩
  rwa [List.getElem?_append_left (by omega)] at hd
 ·have hi2:i=l.length:=by omega
  subst hi2
  rw [List.getElem?_append_right (Nat.le_refl _),Nat.sub_self] at hx
  simp only [List.getElem?_cons_zero,Option.some.injEq] at hx
  subst hx
  refine ⟨he,fun d j hj hd=>hl d ?_⟩
  rw [List.getElem?_append_left (by omega)] at hd
  rw [List.getLast?_eq_getElem?,←hj,Nat.add_sub_cancel]
  exact hd
structure AclFold (n:Nat) (l:List DAcl):Prop where
 at_:∀ i < l.length,AclAt l i
 few:l.length≤4
 last:∀ d,l.getLast? = some d→∃ j,j < n∧(d.tag,d.id)=aclKeys.getD j (0,0)
theorem aclKeys_lt:∀ i < 6,∀ j < i,(aclKeys.getD j (0,0)).1 < (aclKeys.getD i (0,0)).1∨(aclKeys.getD j (0,0)).1=(aclKeys.getD i (0,0)).1∧(aclKeys.getD j (0,0)).2 < (aclKeys.getD i (0,0)).2:=by decide
theorem aclKeys_ok:∀ i < 6,((aclKeys.getD i (0,0)).1=1∨(aclKeys.getD i (0,0)).1=2)∧0≤(aclKeys.getD i (0,0)).2∧(aclKeys.getD i (0,0)).2 < 4:=by decide
theorem AclFold.step {n:Nat} {l:List DAcl} {c:DCur} (hn:n < 6) (h:AclFold n l):AclFold (n + 1) (aclStep (l,c) (aclKeys.getD n (0,0))).1:=by
 unfold aclStep
 split
 ·rename_i hc
  have hb:=belowC_val (onceC c 3).2 (n:=8) (by decide)
  have hk:=aclKeys_ok n hn
  refine ⟨aclAt_snoc h.at_ ⟨by simp only;omega, .inl hk⟩ fun d hd => ?_,by have:=hc.2;simp only [List.length_append,List.length_singleton] at *; omega,fun d hd => ?_⟩
  ·obtain ⟨j,hj,e⟩:=h.last d hd
   have h1:=aclKeys_lt n hn j hj
   rw [←e] at h1
   exact h1
  ·simp only [List.getLast?_append,List.getLast?_singleton,Option.some_or,Option.some.injEq] at hd
   subst hd
   exact ⟨n,by omega,rfl⟩
 ·exact ⟨h.at_,h.few,fun d hd=>by
   obtain ⟨j,hj,e⟩:=h.last d hd
   exact ⟨j,by omega,e⟩⟩
theorem aclFold_all (c:DCur):∀ n,n≤6→AclFold n ((aclKeys.take n).foldl aclStep ([],c)).1
 | 0,_=>⟨fun i hi=>by simp at hi,by simp,fun d hd=>by simp at hd⟩
 | n + 1,hn=>by
  have hlt:n < aclKeys.length:=by show n < 6;omega
  rw [foldl_take hlt]
  have h:=aclFold_all c n (by omega)
  have hg:aclKeys[n]=aclKeys.getD n (0,0):=by simp [hlt]
  rw [hg]
  exact h.step (c:=((aclKeys.take n).foldl aclStep ([],c)).2) (by omega)
theorem drawAcl_ok (c:DCur):IsAcl (drawAcl c).1∧(drawAcl c).1.length≤5:=by
 unfold drawAcl
 split
 ·exact ⟨tr_iff.1 (isAcl_nil (l := []) rfl),by simp⟩
 ·have h:=aclFold_all (onceC c 3).2 6 (Nat.le_refl _)
  rw [show aclKeys.take 6=aclKeys from rfl] at h
  simp only
  generalize aclKeys.foldl aclStep ([],(onceC c 3).2)=p at *
  have hm:(pickC (0:Int) p.2 [7,7,6,5,4,0]).1 ∈ ([7,7,6,5,4,0]:List Int):=pickC_mem (by decide)
  generalize (pickC (0:Int) p.2 [7,7,6,5,4,0]).1=m at *
  have hm2:0≤m∧m≤7:=by
   simp only [List.mem_cons,List.mem_nil_iff,or_false] at hm
   omega
  refine ⟨⟨by have:=h.few;simp only [List.length_append,List.length_singleton];omega,aclAt_snoc h.at_ ⟨hm2, .inr ⟨rfl,rfl⟩⟩ fun d hd => ?_,fun e he => ?_⟩,by have:=h.few;simp only [List.length_append,List.length_singleton];omega⟩
  ·obtain ⟨j,hj,e⟩:=h.last d hd
   have h1:=(aclKeys_ok j hj).1
   rw [←e] at h1
   left
   simp only at h1 ⊢
   omega
  ·simp only [List.getLast?_append,List.getLast?_singleton,Option.some_or,Option.some.injEq] at he
   rw [←he]
end Go.Fw
