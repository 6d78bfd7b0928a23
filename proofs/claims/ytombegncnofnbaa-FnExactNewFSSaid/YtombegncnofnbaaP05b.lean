import Derived.Test.YtombegncnofnbaaP05a
import Derived.Test.YtombegncnofnbaaBx
namespace Go.Proofs.Ytombegncnofnbaa
open Go.Fw
set_option linter.unusedVariables false
set_option linter.unusedSimpArgs false
def cmpOr (a b:Int):Int:=if a=0 then b else a
theorem cmp_Or (a b:Int):Snd Try.prog 64 [.frz 1 (some false) [[.int .i64 a],[.int .i64 b]]] (.int .i64 (cmpOr a b)) [.unk]:=Runs.snd (M:=M) (c:=⟨1,[2,3,5,6,7,8,9,14],[],[(1,[0,2,3,6,7,8,9,14])]⟩) tok ks mixed Try.func64 (p := []) (by kernel_rfl) (by rfl) (by rfl) <| by
 (try simp -implicitDefEqProofs (disch:=first|exact dd|fail)[Try.f64]);(repeat'((with_reducible first|(refine Br.out ?_ ?_<;>intro h<;>(try(have h0:=h;simp only[bH]at h)))|fail)<;>(try simp -implicitDefEqProofs (disch:=first|exact dd|fail)[Try.f64])))
 refine AL_up (fun i=>2 - i) (fun i => [(8, .int .i64 (i:Nat))]) (fun _ => []) (fun i=>i≤2∧(i=1→a=0)∧(i=2→a=0∧b=0)) 0 rfl (by omega) ?_
 rintro i n ⟨hi,h1,h2⟩ ih
 obtain rfl | rfl | rfl:i=0∨i=1∨i=2:=by omega
 ·(try simp -implicitDefEqProofs (disch:=first|exact dd|fail)[Try.f64]);(repeat'((with_reducible first|(refine Br.out ?_ ?_<;>intro h<;>(try(have h0:=h;simp only[bH]at h)))|fail)<;>(try simp -implicitDefEqProofs (disch:=first|exact dd|fail)[Try.f64])))
  ·subst h
   exact ih 1 (by omega) (by omega)
  ·simp [cmpOr, *]
 ·(try simp -implicitDefEqProofs (disch:=first|exact dd|fail)[Try.f64]);(repeat'((with_reducible first|(refine Br.out ?_ ?_<;>intro h<;>(try(have h0:=h;simp only[bH]at h)))|fail)<;>(try simp -implicitDefEqProofs (disch:=first|exact dd|fail)[Try.f64])))
  ·subst h
   exact ih 2 (by omega) (by omega)
  ·simp [cmpOr,h1]
 ·(try simp -implicitDefEqProofs (disch:=first|exact dd|fail)[Try.f64]);(repeat'((with_reducible first|(refine Br.out ?_ ?_<;>intro h<;>(try(have h0:=h;simp only[bH]at h)))|fail)<;>(try simp -implicitDefEqProofs (disch:=first|exact dd|fail)[Try.f64])))
  simp [cmpOr, *]
theorem cmp_ge {a b c d:Int}:(0≤cmpOr (cmpI a b) (cmpI c d))↔¬ (a < b∨a=b∧c < d):=by
 unfold cmpOr cmpI
 repeat' split
 all_goals omega
theorem spec_l05Entry (e:DAcl):Snd Try.prog 61 [.agg [.int .i64 e.tag, .int .i64 e.id, .int .i64 e.perm]] (.bool (tr (AclOK e))) [.unk]:=Runs.snd (M:=M) (c:=⟨1,[1,2,6,8,9,15],[9],[]⟩) tok ks mixed Try.func61 (p := []) (by kernel_rfl) (by rfl) (by rfl) <| by
 (try simp -implicitDefEqProofs (disch:=first|exact dd|fail)[Try.f61]);(repeat'((with_reducible first|(refine Br.out ?_ ?_<;>intro h<;>(try(have h0:=h;simp only[bH]at h)))|refine AC_snd (spec_l01In _ _ _) ?_|fail)<;>(try simp -implicitDefEqProofs (disch:=first|exact dd|fail)[Try.f61])))
 all_goals first
  | exact tr_no (by unfold AclOK;omega)
  |(rw [Bool.eq_iff_iff];simp only [tr_iff,AclOK,Bool.and_eq_true,decide_eq_true_eq];omega)
set_option maxHeartbeats 4000000 in
theorem spec_IsAcl (n:Option Bool) (l:List DAcl) (h:l.length≤1048576):Snd Try.prog 47 [.frz 3 n (l.map cAcl)] (.bool (isAcl l)) [.unk]:=Runs.snd (M:=M) (c:=⟨1,[2,3,4,5,6,7,8,9,52],[],[(1,[0,2,5,6,7,8,9,52])]⟩) tok ks mixed Try.func47 (p := []) (by kernel_rfl) (by rfl) (by rfl) <| by
 (try simp -implicitDefEqProofs (disch:=first|exact dd|fail)[Try.f47]);(repeat'((with_reducible first|(refine Br.out ?_ ?_<;>intro h<;>(try(have h0:=h;simp only[bH]at h)))|fail)<;>(try simp -implicitDefEqProofs (disch:=first|exact dd|fail)[Try.f47])))
 refine AL_for 8 l.length (fun i=>∀ k < i,AclAt l k) rfl (fun k hk=>absurd hk (Nat.not_lt_zero k)) (fun i n hlt he ih => ?_) (fun n he => ?_)
 ·rcases Nat.eq_zero_or_pos i with rfl | hi
  ·have hz:=aclAt_zero hlt
   (try simp -implicitDefEqProofs (disch:=first|exact dd|fail)[Try.f47,hlt]);(repeat'((with_reducible first|(refine Br.out ?_ ?_<;>intro h<;>(try(have h0:=h;simp only[bH]at h)))|refine AC_snd (spec_l05Entry l[0]) ?_|fail)<;>(try simp -implicitDefEqProofs (disch:=first|exact dd|fail)[Try.f47,hlt])))
   all_goals first
    | exact isAcl_at hlt (by rw [hz];(try simp only [tr_iff,tr_not,AclOK,AclLt,cmp_ge] at *);omega)
    | exact ih (lt_succ_all he (by rw [hz];(try simp only [tr_iff,tr_not,AclOK,AclLt,cmp_ge] at *);omega))
  ·obtain ⟨j,rfl⟩:∃ j,i=j + 1:=⟨i - 1,by omega⟩
   have hz:=aclAt_succ hlt
   (try simp -implicitDefEqProofs (disch:=first|exact dd|fail)[Try.f47,hlt]);(repeat'((with_reducible first|(refine Br.out ?_ ?_<;>intro h<;>(try(have h0:=h;simp only[bH]at h)))|refine AC_snd (spec_l05Entry l[j + 1]) ?_|fail)<;>(try simp -implicitDefEqProofs (disch:=first|exact dd|fail)[Try.f47,hlt])))
   all_goals first
    | exact isAcl_at hlt (by rw [hz];(try simp only [tr_iff,tr_not,AclOK,AclLt,cmp_ge] at *);omega)
    | exact ih (lt_succ_all he (by rw [hz];(try simp only [tr_iff,tr_not,AclOK,AclLt,cmp_ge] at *);omega))
 ·rcases Nat.eq_zero_or_pos l.length with h0 | h0
  ·obtain rfl:l = []:=List.length_eq_zero_iff.1 h0
   (try simp -implicitDefEqProofs (disch:=first|exact dd|fail)[Try.f47]);(repeat'((with_reducible first|(refine Br.out ?_ ?_<;>intro h<;>(try(have h0:=h;simp only[bH]at h)))|fail)<;>(try simp -implicitDefEqProofs (disch:=first|exact dd|fail)[Try.f47])))
   exact isAcl_nil (l := []) rfl
  ·have hne:¬ l = []:=by rintro rfl;simp at h0
   have hl:l.length - 1 < l.length:=by omega
   (try simp -implicitDefEqProofs (disch:=first|exact dd|fail)[Try.f47,hne,hl]);(repeat'((with_reducible first|(refine Br.out ?_ ?_<;>intro h<;>(try(have h0:=h;simp only[bH]at h)))|fail)<;>(try simp -implicitDefEqProofs (disch:=first|exact dd|fail)[Try.f47,hne,hl])))
   all_goals first
    | exact isAcl_long (by omega)
    | exact (isAcl_end he hl (by omega)).symm
set_option maxHeartbeats 4000000 in
theorem impl_IsAcl (n:Option Bool) (l:List DAcl) (h:l.length≤1048576):Snd Try.prog 55 [.frz 3 n (l.map cAcl)] (.bool (isAcl l)) [.unk]:=Runs.snd (M:=M) (c:=⟨1,[2,3,4,7,8,9,10,11,22,24,25,31,32,36,61],[25],[(1,[0,2,7,8,9,10,11,22,31,32,36,61]),(2,[0,2,3,4,7,8,9,10,11,22,24,31,32,36,61])]⟩) tok ks mixed Try.func55 (p := []) (by kernel_rfl) (by rfl) (by rfl) <| by
 (try simp -implicitDefEqProofs (disch:=first|exact dd|fail)[Try.f55]);(repeat'((with_reducible first|(refine Br.out ?_ ?_<;>intro h<;>(try(have h0:=h;simp only[bH]at h)))|fail)<;>(try simp -implicitDefEqProofs (disch:=first|exact dd|fail)[Try.f55])))
 ·exact isAcl_long (by omega)
 refine AL_for 10 l.length (fun i=>∀ k < i,AclAt l k) rfl (fun k hk=>absurd hk (Nat.not_lt_zero k)) (fun i n hlt he ih => ?_) (fun n he => ?_)
 ·rcases Nat.eq_zero_or_pos i with rfl | hi
  ·have hz:=aclAt_zero hlt
   (try simp -implicitDefEqProofs (disch:=first|exact dd|fail)[Try.f55,hlt]);(repeat'((with_reducible first|(refine Br.out ?_ ?_<;>intro h<;>(try(have h0:=h;simp only[bH]at h)))|refine AC_snd (impl_isUser _) ?_|refine AC_snd (cmp_Compare _ _) ?_|refine AC_snd (cmp_Or _ _) ?_|fail)<;>(try simp -implicitDefEqProofs (disch:=first|exact dd|fail)[Try.f55,hlt])))
   all_goals first
    | exact isAcl_at hlt (by rw [hz];(try simp only [tr_iff,tr_not,AclOK,AclLt,cmp_ge] at *);omega)
    | exact ih (lt_succ_all he (by rw [hz];(try simp only [tr_iff,tr_not,AclOK,AclLt,cmp_ge] at *);omega))
  ·obtain ⟨j,rfl⟩:∃ j,i=j + 1:=⟨i - 1,by omega⟩
   have hz:=aclAt_succ hlt
   (try simp -implicitDefEqProofs (disch:=first|exact dd|fail)[Try.f55,hlt]);(repeat'((with_reducible first|(refine Br.out ?_ ?_<;>intro h<;>(try(have h0:=h;simp only[bH]at h)))|refine AC_snd (impl_isUser _) ?_|refine AC_snd (cmp_Compare _ _) ?_|refine AC_snd (cmp_Or _ _) ?_|fail)<;>(try simp -implicitDefEqProofs (disch:=first|exact dd|fail)[Try.f55,hlt])))
   all_goals first
    | exact isAcl_at hlt (by rw [hz];(try simp only [tr_iff,tr_not,AclOK,AclLt,cmp_ge] at *);omega)
    | exact ih (lt_succ_all he (by rw [hz];(try simp only [tr_iff,tr_not,AclOK,AclLt,cmp_ge] at *);omega))
 ·rcases Nat.eq_zero_or_pos l.length with h0 | h0
  ·obtain rfl:l = []:=List.length_eq_zero_iff.1 h0
   (try simp -implicitDefEqProofs (disch:=first|exact dd|fail)[Try.f55]);(repeat'((with_reducible first|(refine Br.out ?_ ?_<;>intro h<;>(try(have h0:=h;simp only[bH]at h)))|fail)<;>(try simp -implicitDefEqProofs (disch:=first|exact dd|fail)[Try.f55])))
   exact isAcl_nil (l := []) rfl
  ·have hne:¬ l = []:=by rintro rfl;simp at h0
   have hl:l.length - 1 < l.length:=by omega
   (try simp -implicitDefEqProofs (disch:=first|exact dd|fail)[Try.f55,hne,hl]);(repeat'((with_reducible first|(refine Br.out ?_ ?_<;>intro h<;>(try(have h0:=h;simp only[bH]at h)))|fail)<;>(try simp -implicitDefEqProofs (disch:=first|exact dd|fail)[Try.f55,hne,hl])))
   all_goals first
    | exact isAcl_long (by omega)
    | exact (isAcl_end he hl (by omega)).symm
end Go.Proofs.Ytombegncnofnbaa
