import Derived.Test.YtfkkfhafijgdaaaP04f
import Derived.Test.YtfkkfhafijgdaaaP03c
namespace Go.Proofs.Ytfkkfhafijgdaaa
open Go.Fw
set_option linter.unusedVariables false
set_option linter.unusedSimpArgs false
set_option maxHeartbeats 1000000
set_option maxRecDepth 8000
theorem spec_IsTxn (n1 n2 n3:Option Bool) (d:DDisk) (l:List DWrite) (h1:d.secs.length≤1048576) (h2:d.pend.length≤1048576) (hl:l.length≤1048576):Snd Try.prog 167 [fDisk n1 n2 d, .frz 2 n3 (l.map cWrite)] (.bool (isTxn d l)) [.unk, .unk]:=Runs.snd (M:=M) (c:=⟨2,[2,4,5,6,21,22,23,24,25,62],[],[(1,[0,1,2,4,21,22,23,24,25,62])]⟩) tok ks mixed Try.func167 (p := []) (by kernel_rfl) (by rfl) (by rfl) <| by
 obtain ⟨R,hR⟩:∃ R,R=isTxn d l:=⟨_,rfl⟩
 rw [←hR]
 have cI:=spec_IsDisk n1 n2 d h1 h2
 by_cases hc:isDisk d=true∧70≤d.secs.length∧1≤l.length∧l.length≤64
 ·obtain ⟨hd,h70,hl1,hl64⟩:=hc
  rw [hd] at cI
  have g1:¬ (d.secs.length:Int) < 70:=by omega
  have g2:¬ (l.length:Int) < 1:=by omega
  have g4:(1:Int)≤l.length:=by omega
  have g5:(l.length:Int)≤64:=by omega
  have g3:¬ (64:Int) < l.length:=by omega
  (try simp -implicitDefEqProofs (disch:=first|exact dd|fail)[Try.f167,g1,g2,g3,g4,g5]);(repeat'((with_reducible first|(refine Br.out ?_ ?_<;>intro h<;>(try(have h0:=h;simp only[bH]at h)))|refine AC_snd (cI) ?_|refine AC_snd (spec_l01In _ _ _) ?_|fail)<;>(try simp -implicitDefEqProofs (disch:=first|exact dd|fail)[Try.f167,g1,g2,g3,g4,g5])))
  refine AL_for 24 l.length (fun i=>∀ k,k < i→txn1 d.secs.length l k=true) rfl (fun k h=>by omega) (fun i n hlt hI ih => ?_) (fun n hI => ?_)
  ·have hj:=fun h=>ih (fun k hk=>by
    by_cases e:k=i
    ·subst e;exact h
    ·exact hI k (by omega))
   have hno:=fun h=>hR.trans (txn_no (d:=d) hlt h)
   rcases i with _ | i
   ·have hx:=txn1_zero (n:=d.secs.length) hlt
    cases ht:txn1 d.secs.length l 0 with
    | true=>
     have hjj:=hj ht
     obtain ⟨⟨x1,x2⟩,x3,x4⟩:=hx.1 ht
     have x3':l[0].sec < 1∨70≤l[0].sec:=by omega
     (try simp -implicitDefEqProofs (disch:=first|exact dd|fail)[Try.f167,hlt,x4,cWrite]);(repeat'((with_reducible first|(refine Br.out ?_ ?_<;>intro h<;>(try(have h0:=h;simp only[bH]at h)))|refine AC_snd (spec_l01In _ _ _) ?_|fail)<;>(try simp -implicitDefEqProofs (disch:=first|exact dd|fail)[Try.f167,hlt,x4,cWrite])))
     all_goals first | exact hjj | (exfalso;omega)
    | false=>
     have hr:=hno ht
     have hx2:¬ ((0≤l[0].sec∧l[0].sec < d.secs.length)∧¬ (1≤l[0].sec∧l[0].sec < 70)∧l[0].data.length=32):=fun h=>by rw [hx.2 h] at ht;cases ht
     (try simp -implicitDefEqProofs (disch:=first|exact dd|fail)[Try.f167,hlt,hr,cWrite]);(repeat'((with_reducible first|(refine Br.out ?_ ?_<;>intro h<;>(try(have h0:=h;simp only[bH]at h)))|refine AC_snd (spec_l01In _ _ _) ?_|fail)<;>(try simp -implicitDefEqProofs (disch:=first|exact dd|fail)[Try.f167,hlt,hr,cWrite])))
     all_goals first | (exfalso;omega)
   ·have hx:=txn1_succ (n:=d.secs.length) hlt
    have hi1:i < l.length:=by omega
    have e1:((i + 1:Nat):Int) - 1=i:=by omega
    have e2:IntKind.i64.wrap (((i + 1:Nat):Int) - 1)=i:=by rw [e1,wrap64_in (by omega) (by omega)]
    cases ht:txn1 d.secs.length l (i + 1) with
    | true=>
     have hjj:=hj ht
     obtain ⟨⟨x1,x2⟩,x3,x4,x5⟩:=hx.1 ht
     (try simp -implicitDefEqProofs (disch:=first|exact dd|fail)[Try.f167,hlt,hi1,x4,cWrite]);(repeat'((with_reducible first|(refine Br.out ?_ ?_<;>intro h<;>(try(have h0:=h;simp only[bH]at h)))|refine AC_snd (spec_l01In _ _ _) ?_|fail)<;>(try simp -implicitDefEqProofs (disch:=first|exact dd|fail)[Try.f167,hlt,hi1,x4,cWrite])))
     all_goals first | exact hjj | (exfalso;omega)
    | false=>
     have hr:=hno ht
     have hx2:¬ ((0≤l[i + 1].sec∧l[i + 1].sec < d.secs.length)∧¬ (1≤l[i + 1].sec∧l[i + 1].sec < 70)∧l[i + 1].data.length=32∧l[i].sec < l[i + 1].sec):=fun h=>by rw [hx.2 h] at ht;cases ht
     (try simp -implicitDefEqProofs (disch:=first|exact dd|fail)[Try.f167,hlt,hi1,hr,cWrite]);(repeat'((with_reducible first|(refine Br.out ?_ ?_<;>intro h<;>(try(have h0:=h;simp only[bH]at h)))|refine AC_snd (spec_l01In _ _ _) ?_|fail)<;>(try simp -implicitDefEqProofs (disch:=first|exact dd|fail)[Try.f167,hlt,hi1,hr,cWrite])))
     all_goals first | (exfalso;omega)
  ·have hr:R=true:=by
    rw [hR,txn_all (fun i hi=>hI i hi),hd]
    simp [h70,hl1,hl64]
   (try simp -implicitDefEqProofs (disch:=first|exact dd|fail)[Try.f167,hr]);(repeat'((with_reducible first|(refine Br.out ?_ ?_<;>intro h<;>(try(have h0:=h;simp only[bH]at h)))|fail)<;>(try simp -implicitDefEqProofs (disch:=first|exact dd|fail)[Try.f167,hr])))
 ·have hr:R=false:=by
   rw [hR]
   unfold isTxn
   cases h:isDisk d
   ·rfl
   ·by_cases a:70≤d.secs.length<;>by_cases b:1≤l.length<;>by_cases c:l.length≤64<;>simp [a,b,c]<;>exact absurd ⟨h,a,b,c⟩ hc
  cases h:isDisk d with
  | true=>
   rw [h] at cI
   have hc2:¬ (70≤d.secs.length∧1≤l.length∧l.length≤64):=fun hh=>hc ⟨h,hh⟩
   (try simp -implicitDefEqProofs (disch:=first|exact dd|fail)[Try.f167,hr]);(repeat'((with_reducible first|(refine Br.out ?_ ?_<;>intro h<;>(try(have h0:=h;simp only[bH]at h)))|refine AC_snd (cI) ?_|refine AC_snd (spec_l01In _ _ _) ?_|fail)<;>(try simp -implicitDefEqProofs (disch:=first|exact dd|fail)[Try.f167,hr])))
   all_goals first | (exfalso;omega)
  | false=>
   rw [h] at cI
   (try simp -implicitDefEqProofs (disch:=first|exact dd|fail)[Try.f167,hr]);(repeat'((with_reducible first|(refine Br.out ?_ ?_<;>intro h<;>(try(have h0:=h;simp only[bH]at h)))|refine AC_snd (cI) ?_|refine AC_snd (spec_l01In _ _ _) ?_|fail)<;>(try simp -implicitDefEqProofs (disch:=first|exact dd|fail)[Try.f167,hr])))
end Go.Proofs.Ytfkkfhafijgdaaa
