import Derived.Test.YtfkkfhafijgdaaaP04h
namespace Go.Proofs.Ytfkkfhafijgdaaa
open Go.Fw
set_option linter.unusedVariables false
set_option linter.unusedSimpArgs false
set_option maxHeartbeats 1000000
set_option maxRecDepth 8000
theorem spec_ReadJournal (n1 n2:Option Bool) (d:DDisk) (h1:d.secs.length≤1048576) (h2:d.pend.length≤1048576):Snd Try.prog 133 [fDisk n1 n2 d] (.tup [.int .i64 (jq d), .row 2 ((jl d).map cWrite), .bool (jb d)]) [.unk]:=Runs.snd (M:=M) (c:=⟨1,[1,2,3,4,5,6,8,10,11,12,22,37,41,75],[],[(1,[0,1,2,3,4,5,6,8,10,11,22,37,41,75])]⟩) tok ks mixed Try.func133 (p := []) (by kernel_rfl) (by rfl) (by rfl) <| by
 have cI:=spec_IsDisk n1 n2 d h1 h2
 by_cases hc:isDisk d=true∧70≤d.secs.length
 ·obtain ⟨hd,h70⟩:=hc
  rw [hd] at cI
  have g1:¬ (d.secs.length:Int) < 70:=by omega
  have cR:=spec_l03Read n1 n2 d 1 (by omega) h2
  have hl1:=readD_len (i:=1) hd (by omega)
  have cQ:=spec_GetNumber (readD d 1) 4 4 (by omega)
  have cN:=spec_GetNumber (readD d 1) 8 2 (by omega)
  have hq:=getN_nn (a:=4) (w:=4) hl1 (by decide)
  have hn:=getN_nn (a:=8) (w:=2) hl1 (by decide)
  have eq:(getN (readD d 1) 4 4).1=jSeq d:=rfl
  have en:(getN (readD d 1) 8 2).1=jNum d:=rfl
  rw [show ((4:Nat):Int)=4 from rfl] at hq
  rw [show ((2:Nat):Int)=2 from rfl] at hn
  rw [eq] at cQ hq
  rw [en] at cN hn
  simp only [show ((1:Nat):Int)=1 from rfl] at cR
  by_cases h64:1≤jNum d∧jNum d≤64
  ·obtain ⟨k,hk⟩:=Int.eq_ofNat_of_zero_le hn.1
   have hk64:k≤64:=by omega
   have g2:(1:Int)≤k:=by omega
   have g3:(k:Int)≤64:=by omega
   rw [hk] at cN
   have hdat:=jAt_data (n:=k) hd h70 hk64
   have hjl:=jList_len (d:=d) (n:=k)
   have cC:=fun a=>spec_CommitSector a (jSeq d) (jList d k) (by rw [hjl];omega) hdat
   have cT:=fun a b c=>spec_IsTxn a b c d (jList d k) h1 h2 (by rw [hjl];omega)
   have hcond:readJ d=if isTxn d (jList d k)=true∧commitS (jSeq d) (jList d k)=readD d 1 then some (jSeq d,jList d k) else none:=by
    unfold readJ
    rw [hk,Int.toNat_natCast]
    by_cases hT:isTxn d (jList d k)=true
    ·have hk1:1≤k:=by
      unfold isTxn at hT
      simp only [Bool.and_eq_true,decide_eq_true_eq,hjl] at hT
      exact hT.1.1.2
     by_cases hS:commitS (jSeq d) (jList d k)=readD d 1
     ·rw [if_pos ⟨hd,h70,⟨by omega,by omega⟩,hT,hS⟩,if_pos ⟨hT,hS⟩]
     ·rw [if_neg (fun h=>hS h.2.2.2.2),if_neg (fun h=>hS h.2)]
    ·rw [if_neg (fun h=>hT h.2.2.2.1),if_neg (fun h=>hT h.1)]
   obtain ⟨rq,hrq⟩:∃ x,x=jq d:=⟨_,rfl⟩
   obtain ⟨rl,hrl⟩:∃ x,x=jl d:=⟨_,rfl⟩
   obtain ⟨rb,hrb⟩:∃ x,x=jb d:=⟨_,rfl⟩
   rw [←hrq,←hrl,←hrb]
   (try simp -implicitDefEqProofs (disch:=first|exact dd|fail)[Try.f133,g1,g2,g3]);(repeat'((with_reducible first|(refine Br.out ?_ ?_<;>intro h<;>(try(have h0:=h;simp only[bH]at h)))|refine AC_snd (cI) ?_|refine AC_snd (cR) ?_|refine AC_snd (cQ) ?_|refine AC_snd (cN) ?_|refine AC_snd (spec_l01In _ _ _) ?_|fail)<;>(try simp -implicitDefEqProofs (disch:=first|exact dd|fail)[Try.f133,g1,g2,g3])))
   refine AL_fors (σ:=Unit) 11 k (fun i _ => [(10, .ref 1280 none 2 0 i (some false))]) (fun i _ => [(1280, .row 2 ((jList d i).map cWrite) [])]) (fun _ _=>True) () (by simp [jList]) trivial (fun i _ n hlt _ ih => ?_) (fun _ n _ => ?_)
   ·have hj:=ih () trivial
    rw [jList_succ] at hj
    obtain ⟨a,ha⟩:∃ a,a=i / 16:=⟨_,rfl⟩
    obtain ⟨b,hb⟩:∃ b,b=i % 16:=⟨_,rfl⟩
    unfold jAt at hj
    rw [←ha,←hb] at hj
    have e1:(i:Int).tdiv 16=a:=by rw [Int.tdiv_eq_ediv_of_nonneg (by omega)];omega
    have e1':(i:Int) / 16=a:=by omega
    have e2:(i:Int).tmod 16=b:=by rw [Int.tmod_eq_emod_of_nonneg (by omega)];omega
    have e2':(i:Int) % 16=b:=by omega
    have w1:IntKind.i64.wrap (2 + (a:Int))=2 + a:=wrap64_in (by omega) (by omega)
    have w2:IntKind.i64.wrap (2 * (b:Int))=2 * b:=wrap64_in (by omega) (by omega)
    have w3:IntKind.i64.wrap (6 + (i:Int))=6 + i:=wrap64_in (by omega) (by omega)
    have cR1:=spec_l03Read n1 n2 d (2 + a) (by omega) h2
    have cR2:=spec_l03Read n1 n2 d (6 + i) (by omega) h2
    have hl2:=readD_len (i:=2 + a) hd (by omega)
    have cG:=spec_GetNumber (readD d (2 + a)) (2 * (b:Int)) 2 (by omega)
    simp only [Int.natCast_add,show ((2:Nat):Int)=2 from rfl,show ((6:Nat):Int)=6 from rfl] at cR1 cR2
    simp only [Int.natCast_add,show ((2:Nat):Int)=2 from rfl] at hj
    generalize readD d (2 + a)=X at *
    generalize getN X (2 * (b:Int)) 2=Y at *
    generalize readD d (6 + i)=V at *
    have hlen:=jList_len (d:=d) (n:=i)
    have htk:=takeM (f:=cWrite) hlen
    generalize jList d i=L at *
    simp only [List.map_append,List.map_cons,List.map_nil,cWrite] at hj
    have h30:i≤1073741823:=by omega
    (try simp -implicitDefEqProofs (disch:=first|exact dd|fail)[Try.f133,hlt,e1,e1',e2,e2',w1,w2,w3,hlen,htk,h30]);(repeat'((with_reducible first|(refine Br.out ?_ ?_<;>intro h<;>(try(have h0:=h;simp only[bH]at h)))|refine AC_snd (cR1) ?_|refine AC_snd (cG) ?_|refine AC_snd (cR2) ?_|fail)<;>(try simp -implicitDefEqProofs (disch:=first|exact dd|fail)[Try.f133,hlt,e1,e1',e2,e2',w1,w2,w3,hlen,htk,h30])))
    all_goals first | exact hj
   ·have htk:=takeM (f:=cWrite) hjl
    generalize jList d k=L at *
    by_cases hS:commitS (jSeq d) L=readD d 1
    ·rw [hS] at cC
     cases hT:isTxn d L with
     | true=>
      rw [hT] at cT
      rw [if_pos ⟨hT,hS⟩] at hcond
      obtain ⟨r1,r2,r3⟩:=j_some hcond
      rw [r1] at hrq
      rw [r2] at hrl
      rw [r3] at hrb
      (try simp -implicitDefEqProofs (disch:=first|exact dd|fail)[Try.f133,hjl,htk,hrq,hrl,hrb]);(repeat'((with_reducible first|(refine Br.out ?_ ?_<;>intro h<;>(try(have h0:=h;simp only[bH]at h)))|refine AC_snd (cC _) ?_|refine AC_snd (cT _ _ _) ?_|fail)<;>(try simp -implicitDefEqProofs (disch:=first|exact dd|fail)[Try.f133,hjl,htk,hrq,hrl,hrb])))
     | false=>
      rw [hT] at cT
      rw [if_neg (fun h=>by rw [hT] at h;cases h.1)] at hcond
      obtain ⟨r1,r2,r3⟩:=j_none hcond
      rw [r1] at hrq
      rw [r2] at hrl
      rw [r3] at hrb
      (try simp -implicitDefEqProofs (disch:=first|exact dd|fail)[Try.f133,hjl,htk,hrq,hrl,hrb]);(repeat'((with_reducible first|(refine Br.out ?_ ?_<;>intro h<;>(try(have h0:=h;simp only[bH]at h)))|refine AC_snd (cC _) ?_|refine AC_snd (cT _ _ _) ?_|fail)<;>(try simp -implicitDefEqProofs (disch:=first|exact dd|fail)[Try.f133,hjl,htk,hrq,hrl,hrb])))
    ·rw [if_neg (fun h=>hS h.2)] at hcond
     obtain ⟨r1,r2,r3⟩:=j_none hcond
     rw [r1] at hrq
     rw [r2] at hrl
     rw [r3] at hrb
     generalize commitS (jSeq d) L=CS at *
     cases hT:isTxn d L with
     | true=>
      rw [hT] at cT
      (try simp -implicitDefEqProofs (disch:=first|exact dd|fail)[Try.f133,hjl,htk,hS,hrq,hrl,hrb]);(repeat'((with_reducible first|(refine Br.out ?_ ?_<;>intro h<;>(try(have h0:=h;simp only[bH]at h)))|refine AC_snd (cC _) ?_|refine AC_snd (cT _ _ _) ?_|fail)<;>(try simp -implicitDefEqProofs (disch:=first|exact dd|fail)[Try.f133,hjl,htk,hS,hrq,hrl,hrb])))
     | false=>
      rw [hT] at cT
      (try simp -implicitDefEqProofs (disch:=first|exact dd|fail)[Try.f133,hjl,htk,hS,hrq,hrl,hrb]);(repeat'((with_reducible first|(refine Br.out ?_ ?_<;>intro h<;>(try(have h0:=h;simp only[bH]at h)))|refine AC_snd (cC _) ?_|refine AC_snd (cT _ _ _) ?_|fail)<;>(try simp -implicitDefEqProofs (disch:=first|exact dd|fail)[Try.f133,hjl,htk,hS,hrq,hrl,hrb])))
  ·have hcond:readJ d=none:=by
    unfold readJ
    rw [if_neg (fun h=>h64 h.2.2.1)]
   obtain ⟨r1,r2,r3⟩:=j_none hcond
   rw [r1,r2,r3]
   (try simp -implicitDefEqProofs (disch:=first|exact dd|fail)[Try.f133,g1]);(repeat'((with_reducible first|(refine Br.out ?_ ?_<;>intro h<;>(try(have h0:=h;simp only[bH]at h)))|refine AC_snd (cI) ?_|refine AC_snd (cR) ?_|refine AC_snd (cQ) ?_|refine AC_snd (cN) ?_|refine AC_snd (spec_l01In _ _ _) ?_|fail)<;>(try simp -implicitDefEqProofs (disch:=first|exact dd|fail)[Try.f133,g1])))
   all_goals first | (exfalso;omega)
 ·have hcond:readJ d=none:=by
   unfold readJ
   rw [if_neg (fun h=>hc ⟨h.1,h.2.1⟩)]
  obtain ⟨r1,r2,r3⟩:=j_none hcond
  rw [r1,r2,r3]
  cases h:isDisk d with
  | true=>
   rw [h] at cI
   have hc2:(d.secs.length:Int) < 70:=by
    rcases Nat.lt_or_ge d.secs.length 70 with h7 | h7
    ·omega
    ·exact absurd ⟨h,h7⟩ hc
   (try simp -implicitDefEqProofs (disch:=first|exact dd|fail)[Try.f133,hc2]);(repeat'((with_reducible first|(refine Br.out ?_ ?_<;>intro h<;>(try(have h0:=h;simp only[bH]at h)))|refine AC_snd (cI) ?_|fail)<;>(try simp -implicitDefEqProofs (disch:=first|exact dd|fail)[Try.f133,hc2])))
  | false=>
   rw [h] at cI
   (try simp -implicitDefEqProofs (disch:=first|exact dd|fail)[Try.f133]);(repeat'((with_reducible first|(refine Br.out ?_ ?_<;>intro h<;>(try(have h0:=h;simp only[bH]at h)))|refine AC_snd (cI) ?_|fail)<;>(try simp -implicitDefEqProofs (disch:=first|exact dd|fail)[Try.f133])))
end Go.Proofs.Ytfkkfhafijgdaaa
