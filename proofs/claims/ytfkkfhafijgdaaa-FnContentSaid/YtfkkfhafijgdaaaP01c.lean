import Derived.Test.YtfkkfhafijgdaaaP01b
namespace Go.Proofs.Ytfkkfhafijgdaaa
open Go.Fw
set_option linter.unusedVariables false
set_option linter.unusedSimpArgs false
set_option maxHeartbeats 1000000
set_option maxRecDepth 8000
def aclL (c:DCur) (k:Nat):List DAcl × DCur:=(aclKeys.take k).foldl aclStep ([],c)
theorem aclL_succ {c:DCur} {t i:Nat} (ht:t < 2) (hi:i < 3):aclL c (3 * t + i + 1)=aclStep (aclL c (3 * t + i)) ((t:Int) + 1,(i:Int) + 1):=by
 have hlt:3 * t + i < aclKeys.length:=by show _ < 6;omega
 unfold aclL
 rw [foldl_take hlt]
 congr 1
 have h:∀ t < 2,∀ i < 3,aclKeys.getD (3 * t + i) (0,0)=((t:Int) + 1,(i:Int) + 1):=by decide
 have h2:=h t ht i hi
 rwa [List.getD_eq_getElem?_getD,List.getElem?_eq_getElem hlt,Option.getD_some] at h2
theorem aclStep_ok {p:List DAcl × DCur} (k:Int × Int) (h:CurOK p.2):CurOK (aclStep p k).2∧(aclStep p k).2.code=p.2.code:=by
 unfold aclStep
 split
 ·exact ⟨belowC_ok _ (onceC_ok _ h),by simp only [belowC_code,onceC_code]⟩
 ·exact ⟨onceC_ok _ h,by simp only [onceC_code]⟩
theorem aclFold_cur (l:List (Int × Int)):∀ p:List DAcl × DCur,CurOK p.2→CurOK (l.foldl aclStep p).2∧(l.foldl aclStep p).2.code=p.2.code:=by
 induction l with
 | nil=>exact fun p h=>⟨h,rfl⟩
 | cons k l ih=>
  intro p h
  obtain ⟨h1,h2⟩:=aclStep_ok k h
  obtain ⟨h3,h4⟩:=ih _ h1
  exact ⟨h3,h4.trans h2⟩
theorem aclL_cur {c:DCur} (h:CurOK c) (k:Nat):CurOK (aclL c k).2∧(aclL c k).2.code=c.code:=by
 unfold aclL
 exact aclFold_cur (aclKeys.take k) ([],c) h
theorem aclL_few (c:DCur) {k:Nat} (h:k≤6):(aclL c k).1.length≤4:=by
 unfold aclL
 exact (aclFold_all c k h).few
theorem aclL_zero (c:DCur):aclL c (3 * 0)=([],c):=by
 unfold aclL
 rw [Nat.mul_zero,List.take_zero]
 rfl
theorem aclL_six (c:DCur):aclKeys.foldl aclStep ([],c)=aclL c 6:=by
 unfold aclL
 rw [List.take_of_length_le (by decide)]
theorem drawAcl_cur {c:DCur} (h:CurOK c):CurOK (drawAcl c).2∧(drawAcl c).2.code=c.code:=by
 unfold drawAcl
 split
 ·exact ⟨onceC_ok _ h,onceC_code _ _⟩
 ·rw [aclL_six]
  obtain ⟨h1,h2⟩:=aclL_cur (onceC_ok 3 h) 6
  simp only
  generalize aclL (onceC c 3).2 6=P at *
  exact ⟨belowC_ok _ h1,by unfold pickC;rw [belowC_code,h2,onceC_code]⟩
theorem spec_l05Draw (nl:Option Bool) (c:DCur) (hc:CurOK c) (hl:c.code.length≤1048576):Snd Try.prog 112 [wCur nl c] (.row 3 ((drawAcl c).1.map cAcl)) [wCur nl (drawAcl c).2]:=Runs.snd (M:=M) (c:=⟨1,[2,3,4,5,8,11,15,24],[],[(1,[0,2,3,4,8,11,15,24])]⟩) tok ks mixed Try.func112 (p := [0]) (by kernel_rfl) (by rfl) (by rfl) <| by
 have c1:=spec_l01Once nl c 3 hc hl
 have o1:=onceC_ok 3 hc
 have d1:=onceC_code c 3
 unfold drawAcl
 generalize onceC c 3=x at *
 split
 ·rename_i hx
  (try simp -implicitDefEqProofs (disch:=first|exact dd|fail)[Try.f112,hx]);(repeat'((with_reducible first|(refine Br.out ?_ ?_<;>intro h<;>(try(have h0:=h;simp only[bH]at h)))|refine AC_snd (c1) ?_|fail)<;>(try simp -implicitDefEqProofs (disch:=first|exact dd|fail)[Try.f112,hx])))
 ·rename_i hx
  have hx2:x.1=false:=by simpa using hx
  simp only
  rw [aclL_six]
  have hz:=aclL_zero x.2
  have c6:=spec_l01Pick nl (aclL x.2 6).2 [7,7,6,5,4,0] (by decide) (by decide) (aclL_cur o1 6).1 (by rw [(aclL_cur o1 6).2,d1];exact hl)
  simp only [List.map_cons,List.map_nil,ci] at c6
  obtain ⟨R,hR⟩:∃ R,R=pickC (0:Int) (aclL x.2 6).2 [7,7,6,5,4,0]:=⟨_,rfl⟩
  rw [←hR] at c6 ⊢
  (try simp -implicitDefEqProofs (disch:=first|exact dd|fail)[Try.f112,hx2]);(repeat'((with_reducible first|(refine Br.out ?_ ?_<;>intro h<;>(try(have h0:=h;simp only[bH]at h)))|refine AC_snd (c1) ?_|fail)<;>(try simp -implicitDefEqProofs (disch:=first|exact dd|fail)[Try.f112,hx2])))
  refine AL_up (fun (t:Nat)=>2 - t) (fun (t:Nat) => [(3, .ref 384 none 3 0 (aclL x.2 (3 * t)).1.length (some false)),(4, .int .i64 ((t:Int) + 1))]) (fun (t:Nat) => [(0, .box [.frz 1 nl ((aclL x.2 (3 * t)).2.code.map cu), .int .i64 (aclL x.2 (3 * t)).2.i, .int .i64 (aclL x.2 (3 * t)).2.h]),(384, .row 3 ((aclL x.2 (3 * t)).1.map cAcl) [])]) (fun t=>t≤2) 0 (by rw [hz];simp) (by omega) ?_
  intro t n1 ht ih
  rcases Nat.lt_or_ge t 2 with hlt | hge
  ·have ht2:(t:Int) + 1≤2:=by omega
   have hj:=ih (t + 1) (by omega) (by omega)
   have ek:3 * (t + 1)=3 * t + 3:=by omega
   have ew:((t + 1:Nat):Int) + 1=(t:Int) + 1 + 1:=by omega
   rw [ek,ew] at hj
   obtain ⟨Q,hQ⟩:∃ Q,Q=aclL x.2 (3 * t):=⟨_,rfl⟩
   rw [←hQ]
   (try simp -implicitDefEqProofs (disch:=first|exact dd|fail)[Try.f112,ht2]);(repeat'((with_reducible first|(refine Br.out ?_ ?_<;>intro h<;>(try(have h0:=h;simp only[bH]at h)))|fail)<;>(try simp -implicitDefEqProofs (disch:=first|exact dd|fail)[Try.f112,ht2])))
   refine AL_up (fun (i:Nat)=>3 - i) (fun (i:Nat) => [(3, .ref 384 none 3 0 (aclL x.2 (3 * t + i)).1.length (some false)),(5, .int .i64 ((i:Int) + 1))]) (fun (i:Nat) => [(0, .box [.frz 1 nl ((aclL x.2 (3 * t + i)).2.code.map cu), .int .i64 (aclL x.2 (3 * t + i)).2.i, .int .i64 (aclL x.2 (3 * t + i)).2.h]),(384, .row 3 ((aclL x.2 (3 * t + i)).1.map cAcl) [])]) (fun i=>i≤3) 0 (by rw [Nat.add_zero,←hQ];simp) (by omega) ?_
   intro i n2 hi jh
   rcases Nat.lt_or_ge i 3 with hli | hgi
   ·have hi2:(i:Int) + 1 < 4:=by omega
    have hjj:=jh (i + 1) (by omega) (by omega)
    have ew2:((i + 1:Nat):Int) + 1=(i:Int) + 1 + 1:=by omega
    rw [show 3 * t + (i + 1)=3 * t + i + 1 by omega,aclL_succ hlt hli,ew2] at hjj
    have hq:=aclL_cur o1 (3 * t + i)
    have hq4:=aclL_few x.2 (show 3 * t + i≤6 by omega)
    generalize aclL x.2 (3 * t + i)=P at *
    obtain ⟨q1,q2⟩:=hq
    have c2:=spec_l01Once nl P.2 3 q1 (by rw [q2,d1];exact hl)
    have o2:=onceC_ok 3 q1
    have d2:=onceC_code P.2 3
    unfold aclStep at hjj
    generalize onceC P.2 3=y at *
    have c3:=spec_l01Below nl y.2 8 o2 (by rw [d2,q2,d1];exact hl)
    generalize belowC y.2 8=z at *
    have htk:=takeM (f:=cAcl) (rfl:P.1.length=P.1.length)
    by_cases hy:y.1=true
    ·by_cases h4:P.1.length < 4
     ·have h4i:(P.1.length:Int) < 4:=by omega
      rw [if_pos ⟨hy,h4⟩] at hjj
      simp only [List.map_append,List.map_cons,List.map_nil,cAcl,List.length_append,List.length_cons,List.length_nil] at hjj
      (try simp -implicitDefEqProofs (disch:=first|exact dd|fail)[Try.f112,hi2,hy,h4i,htk]);(repeat'((with_reducible first|(refine Br.out ?_ ?_<;>intro h<;>(try(have h0:=h;simp only[bH]at h)))|refine AC_snd (c2) ?_|refine AC_snd (c3) ?_|fail)<;>(try simp -implicitDefEqProofs (disch:=first|exact dd|fail)[Try.f112,hi2,hy,h4i,htk])))
      all_goals first | exact hjj
     ·have h4i:¬ (P.1.length:Int) < 4:=by omega
      rw [if_neg (fun h=>h4 h.2)] at hjj
      (try simp -implicitDefEqProofs (disch:=first|exact dd|fail)[Try.f112,hi2,hy,h4i,htk]);(repeat'((with_reducible first|(refine Br.out ?_ ?_<;>intro h<;>(try(have h0:=h;simp only[bH]at h)))|refine AC_snd (c2) ?_|refine AC_snd (c3) ?_|fail)<;>(try simp -implicitDefEqProofs (disch:=first|exact dd|fail)[Try.f112,hi2,hy,h4i,htk])))
      all_goals first | exact hjj
    ·have hy2:y.1=false:=by simpa using hy
     rw [if_neg (fun h=>hy h.1)] at hjj
     (try simp -implicitDefEqProofs (disch:=first|exact dd|fail)[Try.f112,hi2,hy2,htk]);(repeat'((with_reducible first|(refine Br.out ?_ ?_<;>intro h<;>(try(have h0:=h;simp only[bH]at h)))|refine AC_snd (c2) ?_|refine AC_snd (c3) ?_|fail)<;>(try simp -implicitDefEqProofs (disch:=first|exact dd|fail)[Try.f112,hi2,hy2,htk])))
     all_goals first | exact hjj
   ·have h3:i=3:=by omega
    subst h3
    have hi2:¬ ((3:Nat):Int) + 1 < 4:=by omega
    generalize aclL x.2 (3 * t + 3)=P at *
    (try simp -implicitDefEqProofs (disch:=first|exact dd|fail)[Try.f112,hi2]);(repeat'((with_reducible first|(refine Br.out ?_ ?_<;>intro h<;>(try(have h0:=h;simp only[bH]at h)))|fail)<;>(try simp -implicitDefEqProofs (disch:=first|exact dd|fail)[Try.f112,hi2])))
    all_goals first | exact hj
  ·have h2:t=2:=by omega
   subst h2
   have ht2:¬ ((2:Nat):Int) + 1≤2:=by omega
   rw [show 3 * 2=6 from rfl]
   have hq4:=aclL_few x.2 (Nat.le_refl 6)
   generalize aclL x.2 6=P at *
   have hq30:P.1.length≤1073741823:=by omega
   have htk:=takeM (f:=cAcl) (rfl:P.1.length=P.1.length)
   (try simp -implicitDefEqProofs (disch:=first|exact dd|fail)[Try.f112,ht2,htk,hq30,cAcl]);(repeat'((with_reducible first|(refine Br.out ?_ ?_<;>intro h<;>(try(have h0:=h;simp only[bH]at h)))|refine AC_snd (c6) ?_|fail)<;>(try simp -implicitDefEqProofs (disch:=first|exact dd|fail)[Try.f112,ht2,htk,hq30,cAcl])))
   all_goals (rw [hR];simp)
end Go.Proofs.Ytfkkfhafijgdaaa
