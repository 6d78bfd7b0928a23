/- Sizes of small systems. -/
import Derived.Test.YtgopfdninbknpaaGreatWCs
import Derived.Test.YtgopfdninbknpaaGreatM32
namespace Go.Proofs.YtgopfdninbknpaaGreat
open Go.Fw
set_option linter.unusedVariables false
set_option linter.unusedSimpArgs false
theorem nLOpen_eq' (xs:List DOpen):nLOpen xs=3 * xs.length:=by
 show wList (fun _=>3) xs=_
 induction xs with
 | nil=>rfl
 | cons x xs ih=>simp only [wList,ih,List.length_cons];omega
theorem ntSystem_le' (s:DSystem):ntSystem s≤14 * wSystem s:=by
 have h1:=ntFS_le s.fs
 have h2:nLProc s.procs≤14 * wLProc s.procs:=by
  unfold wLProc
  induction s.procs with
  | nil=>exact Nat.zero_le _
  | cons x xs ih=>
   have a1:=nLInt_eq x.cred.groups
   have a2:=nLOpen_eq' x.files
   simp only [nLProc,wList,List.length_cons,nmProc,wProc,wCred,ntCred] at *
   omega
 simp only [ntSystem,wSystem] at *
 omega
theorem cred_len4 {c:DCred} (h:IsCred c):c.groups.length≤4:=by
 have key:∀ (i:Nat) (hi:i < c.groups.length),(i:Int)≤c.groups[i]:=by
  intro i
  induction i with
  | zero=>intro hi;exact ((h.1 0 hi) _ (List.getElem?_eq_getElem hi)).1.1
  | succ j ih=>
   intro hi
   have h1:=((h.1 (j + 1) hi) _ (List.getElem?_eq_getElem hi)).2 _ j rfl (List.getElem?_eq_getElem (by omega))
   have h2:=ih (by omega)
   omega
 rcases Nat.eq_zero_or_pos c.groups.length with h0 | h0
 ·omega
 ·have h3:c.groups.length - 1 < c.groups.length:=by omega
  have h1:=key (c.groups.length - 1) h3
  have h2:=((h.1 (c.groups.length - 1) h3) _ (List.getElem?_eq_getElem h3)).1.2
  omega
theorem wList_le {α:Type} {f:α→Nat} {B:Nat}:∀ {xs:List α},(∀ x ∈ xs,f x≤B)→wList f xs≤B * xs.length
 | [],_=>Nat.zero_le _
 | x :: xs,h=>by
  have h1:=h x (List.mem_cons_self ..)
  have h2:=wList_le (xs:=xs) fun y hy=>h y (List.mem_cons_of_mem _ hy)
  simp only [wList,List.length_cons]
  rw [Nat.mul_add]
  omega
theorem mid_tiny {s:DSystem} (h:Mid s):SmSystem s∧(1:Int) + ntSystem s≤16777216:=by
 have ht:=tiny_of h.fs
 refine ⟨⟨ht.sm,by rw [h.np];decide,fun p hp => ?_⟩,?_⟩
 ·obtain ⟨h1,h2,h3⟩:=h.proc p hp
  exact ⟨⟨by have:=cred_len4 h1;omega⟩,by omega⟩
 ·have h1:nLProc s.procs≤100 * s.procs.length:=wList_le fun p hp=>by
   obtain ⟨h1,h2,h3⟩:=h.proc p hp
   have a1:=nLInt_eq p.cred.groups
   have a2:=nLOpen_eq' p.files
   have a3:=cred_len4 h1
   simp only [nmProc]
   omega
  have h2:=ht.nt
  have h3:=h.np
  simp only [ntSystem,ntFS] at *
  omega
end Go.Proofs.YtgopfdninbknpaaGreat
