import Derived.Test.YtgopfdninbknpaaGreatP10
import Derived.Test.YtgopfdninbknpaaGreatM25
import Derived.Test.YtgopfdninbknpaaGreatMC
namespace Go.Proofs.YtgopfdninbknpaaGreat
open Go.Fw
set_option linter.unusedVariables false
set_option linter.unusedSimpArgs false
set_option maxHeartbeats 4000000
set_option maxRecDepth 8000
theorem parentL_in {f:DFS} {i:Int}:∀ {l:List Nat},(∀ d ∈ l,d < 20)→(parentL f i l).2.2=true→0≤(parentL f i l).1∧(parentL f i l).1 < 20
 | [],_,h=>by simp [parentL] at h
 | d :: l,hl,h=>by
  have h2:=hl d (List.mem_cons_self ..)
  have ih:=parentL_in (f:=f) (i:=i) (l:=l) fun x hx=>hl x (List.mem_cons_of_mem _ hx)
  rw [parentL] at h ⊢
  split
  ·rename_i h3
   rw [if_pos h3] at h
   cases hfe:firstE i (entriesI f d) with
   | none=>rw [hfe] at h;exact ih h
   | some s=>exact ⟨by simp only;omega,by simp only;omega⟩
  ·rename_i h3
   rw [if_neg h3] at h
   exact ih h
theorem parentI_in {f:DFS} {i:Int} (h:(parentI f i).2.2=true):0≤(parentI f i).1∧(parentI f i).1 < 20:=
 parentL_in (fun d hd=>by simpa using hd) h
theorem impl_within (n1 n2 n3:Option Bool) (f:DFS) (i d:Int) (hf:IsFS f):Snd Tryz.prog 186 [pFS n1 n2 n3 f, .int .i64 i, .int .i64 d] (.bool (withinN (parentI f) i 21 d)) [.unk, .unk, .unk]:=Runs.snd (M:=M) (c:=⟨3,[6,7,9,10,11,14,16,25],[],[(1,[0,1,2,6,10,11,14,16,25])]⟩) tok ks mixed Tryz.func186 (p := []) (by kernel_rfl) (by rfl) (by rfl) <| by
 obtain ⟨R,hR⟩:∃ R,R=withinN (parentI f) i 21 d:=⟨_,rfl⟩
 rw [←hR]
 (try simp -implicitDefEqProofs (disch:=first|exact dd|fail)[Tryz.f186]);(repeat'((with_reducible first|(refine Br.out ?_ ?_<;>intro h<;>(try(have h0:=h;simp only[bH]at h)))|fail)<;>(try simp -implicitDefEqProofs (disch:=first|exact dd|fail)[Tryz.f186])))
 refine AL_fors (σ:=Int) 10 21 (fun _ e => [(2, .int .i64 e)]) (fun _ _ => []) (fun j e=>R=withinN (parentI f) i (21 - j) e) d rfl hR (fun j e n hlt he ih => ?_) (fun e n he => ?_)
 ·rw [show 21 - j=(21 - (j + 1)) + 1 by omega,withinN] at he
  have c1:=fun a b c=>impl_parent a b c f e hf
  have ih2:=ih (parentI f e).1
  generalize parentI f e=r at *
  obtain ⟨x,s,y⟩:=r
  by_cases h1:e=i
  ·rw [if_pos h1] at he
   (try simp -implicitDefEqProofs (disch:=first|exact dd|fail)[Tryz.f186,hlt,h1,he]);(repeat'((with_reducible first|(refine Br.out ?_ ?_<;>intro h<;>(try(have h0:=h;simp only[bH]at h)))|fail)<;>(try simp -implicitDefEqProofs (disch:=first|exact dd|fail)[Tryz.f186,hlt,h1,he])))
  rw [if_neg h1] at he
  by_cases h2:e=0
  ·rw [if_pos h2] at he
   have h1':¬ (0:Int)=i:=h2 ▸ h1
   (try simp -implicitDefEqProofs (disch:=first|exact dd|fail)[Tryz.f186,hlt,h1,h1',h2,he]);(repeat'((with_reducible first|(refine Br.out ?_ ?_<;>intro h<;>(try(have h0:=h;simp only[bH]at h)))|fail)<;>(try simp -implicitDefEqProofs (disch:=first|exact dd|fail)[Tryz.f186,hlt,h1,h1',h2,he])))
  rw [if_neg h2] at he
  cases y with
  | false=>
   rw [if_pos rfl] at he
   (try simp -implicitDefEqProofs (disch:=first|exact dd|fail)[Tryz.f186,hlt,h1,h2,he]);(repeat'((with_reducible first|(refine Br.out ?_ ?_<;>intro h<;>(try(have h0:=h;simp only[bH]at h)))|refine AC_snd (c1 _ _ _) ?_|fail)<;>(try simp -implicitDefEqProofs (disch:=first|exact dd|fail)[Tryz.f186,hlt,h1,h2,he])))
  | true=>
   rw [if_neg (by simp)] at he
   have hj:=ih2 he
   (try simp -implicitDefEqProofs (disch:=first|exact dd|fail)[Tryz.f186,hlt,h1,h2]);(repeat'((with_reducible first|(refine Br.out ?_ ?_<;>intro h<;>(try(have h0:=h;simp only[bH]at h)))|refine AC_snd (c1 _ _ _) ?_|fail)<;>(try simp -implicitDefEqProofs (disch:=first|exact dd|fail)[Tryz.f186,hlt,h1,h2])))
   all_goals first | exact hj
 ·rw [show 21 - 21=0 from rfl,withinN] at he
  (try simp -implicitDefEqProofs (disch:=first|exact dd|fail)[Tryz.f186,he]);(repeat'((with_reducible first|(refine Br.out ?_ ?_<;>intro h<;>(try(have h0:=h;simp only[bH]at h)))|fail)<;>(try simp -implicitDefEqProofs (disch:=first|exact dd|fail)[Tryz.f186,he])))
theorem spec_l14Within (n1 n2 n3:Option Bool) (f:DFS) (i d:Int) (hf:IsFS f):Snd Tryz.prog 101 [fFS n1 n2 n3 f, .int .i64 i, .int .i64 d] (.bool (withinN (parentI f) i 20 d)) [.unk, .unk, .unk]:=Runs.snd (M:=M) (c:=⟨3,[3,6,7,8,10,12,17,30],[],[(1,[0,1,2,3,6,7,12,17,30])]⟩) tok ks mixed Tryz.func101 (p := []) (by kernel_rfl) (by rfl) (by rfl) <| by
 obtain ⟨R,hR⟩:∃ R,R=withinN (parentI f) i 20 d:=⟨_,rfl⟩
 rw [←hR]
 (try simp -implicitDefEqProofs (disch:=first|exact dd|fail)[Tryz.f101]);(repeat'((with_reducible first|(refine Br.out ?_ ?_<;>intro h<;>(try(have h0:=h;simp only[bH]at h)))|fail)<;>(try simp -implicitDefEqProofs (disch:=first|exact dd|fail)[Tryz.f101])))
 refine AL_fors (σ:=Int) 7 20 (fun _ e => [(2, .int .i64 e)]) (fun _ _ => []) (fun j e=>R=withinN (parentI f) i (20 - j) e) d rfl hR (fun j e n hlt he ih => ?_) (fun e n he => ?_)
 ·rw [show 20 - j=(20 - (j + 1)) + 1 by omega,withinN] at he
  have c1:=fun a b c=>spec_l10Parent a b c f e hf
  have ih2:=ih (parentI f e).1
  generalize parentI f e=r at *
  obtain ⟨x,s,y⟩:=r
  by_cases h1:e=i
  ·rw [if_pos h1] at he
   (try simp -implicitDefEqProofs (disch:=first|exact dd|fail)[Tryz.f101,hlt,h1,he]);(repeat'((with_reducible first|(refine Br.out ?_ ?_<;>intro h<;>(try(have h0:=h;simp only[bH]at h)))|fail)<;>(try simp -implicitDefEqProofs (disch:=first|exact dd|fail)[Tryz.f101,hlt,h1,he])))
  rw [if_neg h1] at he
  by_cases h2:e=0
  ·rw [if_pos h2] at he
   have h1':¬ (0:Int)=i:=h2 ▸ h1
   subst h2
   (try simp -implicitDefEqProofs (disch:=first|exact dd|fail)[Tryz.f101,hlt,h1',he]);(repeat'((with_reducible first|(refine Br.out ?_ ?_<;>intro h<;>(try(have h0:=h;simp only[bH]at h)))|refine AC_snd (c1 _ _ _) ?_|fail)<;>(try simp -implicitDefEqProofs (disch:=first|exact dd|fail)[Tryz.f101,hlt,h1',he])))
  rw [if_neg h2] at he
  cases y with
  | false=>
   rw [if_pos rfl] at he
   (try simp -implicitDefEqProofs (disch:=first|exact dd|fail)[Tryz.f101,hlt,h1,h2,he]);(repeat'((with_reducible first|(refine Br.out ?_ ?_<;>intro h<;>(try(have h0:=h;simp only[bH]at h)))|refine AC_snd (c1 _ _ _) ?_|fail)<;>(try simp -implicitDefEqProofs (disch:=first|exact dd|fail)[Tryz.f101,hlt,h1,h2,he])))
  | true=>
   rw [if_neg (by simp)] at he
   have hj:=ih2 he
   (try simp -implicitDefEqProofs (disch:=first|exact dd|fail)[Tryz.f101,hlt,h1,h2]);(repeat'((with_reducible first|(refine Br.out ?_ ?_<;>intro h<;>(try(have h0:=h;simp only[bH]at h)))|refine AC_snd (c1 _ _ _) ?_|fail)<;>(try simp -implicitDefEqProofs (disch:=first|exact dd|fail)[Tryz.f101,hlt,h1,h2])))
   all_goals first | exact hj
 ·rw [show 20 - 20=0 from rfl,withinN] at he
  (try simp -implicitDefEqProofs (disch:=first|exact dd|fail)[Tryz.f101,he]);(repeat'((with_reducible first|(refine Br.out ?_ ?_<;>intro h<;>(try(have h0:=h;simp only[bH]at h)))|fail)<;>(try simp -implicitDefEqProofs (disch:=first|exact dd|fail)[Tryz.f101,he])))
noncomputable def withinO (f:DFS) (i d:Int):Bool:=isFS f && (hasI f i && (hasI f d && withinN (parentI f) i 20 d))
end Go.Proofs.YtgopfdninbknpaaGreat
