/- Plain models: the way up from a directory. -/
import Derived.Test.YtgopfdninbknpaaGreatMA
namespace Go.Fw
set_option linter.unusedVariables false
abbrev Par:=Int→Int × Str × Bool
def withinN (par:Par) (i:Int):Nat→Int→Bool
 | 0,_=>false
 | k + 1,d=>if d=i then true else if d=0 then false else if (par d).2.2=false then false else withinN par i k (par d).1
def upN (par:Par) (d:Int):Nat→Int
 | 0=>d
 | k + 1=>(par (upN par d k)).1
theorem upN_succ {par:Par} {d:Int}:∀ {k:Nat},upN par (par d).1 k=upN par d (k + 1)
 | 0=>rfl
 | k + 1=>by rw [upN,upN_succ,upN];rfl
def Way (par:Par) (i d:Int) (m:Nat):Prop:=upN par d m=i∧∀ j < m,upN par d j≠0∧(par (upN par d j)).2.2=true
theorem within_way {par:Par} {i:Int}:∀ {k:Nat} {d:Int},withinN par i k d=true↔∃ m < k,Way par i d m
 | 0,d=>by simp [withinN]
 | k + 1,d=>by
  rw [withinN]
  constructor
  ·intro h
   by_cases h1:d=i
   ·exact ⟨0,by omega,h1,fun j hj=>absurd hj (by omega)⟩
   rw [if_neg h1] at h
   by_cases h2:d=0
   ·rw [if_pos h2] at h;cases h
   rw [if_neg h2] at h
   by_cases h3:(par d).2.2=false
   ·rw [if_pos h3] at h;cases h
   rw [if_neg h3] at h
   obtain ⟨m,hm,hw,hj⟩:=within_way.1 h
   refine ⟨m + 1,by omega,by rw [←upN_succ];exact hw,fun j hjm => ?_⟩
   cases j with
   | zero=>exact ⟨h2,(Bool.not_eq_false _).mp h3⟩
   | succ j=>
    have:=hj j (by omega)
    rwa [upN_succ] at this
  ·rintro ⟨m,hm,hw,hj⟩
   by_cases h1:d=i
   ·rw [if_pos h1]
   rw [if_neg h1]
   cases m with
   | zero=>exact absurd hw h1
   | succ m=>
    have h0:=hj 0 (by omega)
    rw [show upN par d 0=d from rfl] at h0
    rw [if_neg h0.1,if_neg (by simp [h0.2])]
    refine within_way.2 ⟨m,by omega,by rw [upN_succ];exact hw,fun j hjm => ?_⟩
    rw [upN_succ]
    exact hj (j + 1) (by omega)
theorem pigeon:∀ (n:Nat) (g:Nat→Nat),(∀ j≤n,g j < n)→∃ a b,a < b∧b≤n∧g a=g b
 | 0,g,h=>absurd (h 0 (Nat.le_refl _)) (by omega)
 | n + 1,g,h=>by
  by_cases hc:∃ a≤n,g a=g (n + 1)
  ·obtain ⟨a,h1,h2⟩:=hc
   exact ⟨a,n + 1,by omega,Nat.le_refl _,h2⟩
  have hne:∀ a≤n,g a≠g (n + 1):=fun a ha e=>hc ⟨a,ha,e⟩
  obtain ⟨a,b,h1,h2,h3⟩:=pigeon n (fun j=>if g j=n then g (n + 1) else g j) (fun j hj=>by
   have h4:=h j (by omega)
   have h5:=h (n + 1) (Nat.le_refl _)
   have h6:=hne j hj
   split<;>omega)
  refine ⟨a,b,h1,by omega,?_⟩
  have h4:=hne a (by omega)
  have h5:=hne b h2
  split at h3<;>split at h3<;>omega
theorem upN_add {par:Par} {d:Int} {a b:Nat} (h:upN par d a=upN par d b):∀ t,upN par d (a + t)=upN par d (b + t)
 | 0=>h
 | t + 1=>by
  show (par (upN par d (a + t))).1=(par (upN par d (b + t))).1
  rw [upN_add h t]
theorem way_short {par:Par} {i d:Int} (hp:∀ e,(par e).2.2=true→0≤(par e).1∧(par e).1 < 20) (hd:0≤d∧d < 20):∀ {m:Nat},Way par i d m→∃ k < 20,Way par i d k:=by
 intro m
 induction m using Nat.strongRecOn with
 | ind m ih=>
  intro hw
  rcases Nat.lt_or_ge m 20 with hm | hm
  ·exact ⟨m,hm,hw⟩
  have hr:∀ j≤20,0≤upN par d j∧upN par d j < 20:=by
   intro j hj
   cases j with
   | zero=>exact hd
   | succ j=>exact hp _ (hw.2 j (by omega)).2
  obtain ⟨a,b,h1,h2,h3⟩:=pigeon 20 (fun j=>(upN par d j).toNat) (fun j hj=>by have:=hr j hj;omega)
  have h4:=hr a (by omega)
  have h5:=hr b h2
  have h6:upN par d b=upN par d a:=by omega
  have h7:=upN_add h6 (m - b)
  rw [show b + (m - b)=m by omega,hw.1] at h7
  exact ih (a + (m - b)) (by omega) ⟨h7.symm,fun j hj=>hw.2 j (by omega)⟩
theorem within_21 {par:Par} {i d:Int} (hp:∀ e,(par e).2.2=true→0≤(par e).1∧(par e).1 < 20) (hd:0≤d∧d < 20):withinN par i 21 d=withinN par i 20 d:=by
 rw [Bool.eq_iff_iff,within_way,within_way]
 constructor
 ·rintro ⟨m,hm,hw⟩
  exact way_short hp hd hw
 ·rintro ⟨m,hm,hw⟩
  exact ⟨m,by omega,hw⟩
def pathN (par:Par):Nat→Int→List Str→List Str × Bool
 | k,i,ns=>if i=0 then (ns,true) else if (par i).2.2=false then ([],false) else match k with
  | 0=>([],false)
  | k + 1=>pathN par k (par i).1 ((par i).2.1 :: ns)
end Go.Fw
