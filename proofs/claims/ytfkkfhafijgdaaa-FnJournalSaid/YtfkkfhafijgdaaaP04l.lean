import Derived.Test.YtfkkfhafijgdaaaP04k
import Derived.Test.YtfkkfhafijgdaaaP01h
namespace Go.Proofs.Ytfkkfhafijgdaaa
open Go.Fw
set_option linter.unusedVariables false
set_option linter.unusedSimpArgs false
set_option maxHeartbeats 1000000
set_option maxRecDepth 8000
def keyT (k:Nat):Int := [0,70,71,72].getD k 73
def txL (c:DCur):Nat→List DWrite × DCur
 | 0=>([],c)
 | k + 1=>if (onceC (txL c k).2 2).1=true∨keyT k=70 then ((txL c k).1 ++ [⟨keyT k,(secC (onceC (txL c k).2 2).2).1⟩],(secC (onceC (txL c k).2 2).2).2) else ((txL c k).1,(onceC (txL c k).2 2).2)
theorem txL_succ {c:DCur} {k:Nat}:txL c (k + 1)=if (onceC (txL c k).2 2).1=true∨keyT k=70 then ((txL c k).1 ++ [⟨keyT k,(secC (onceC (txL c k).2 2).2).1⟩],(secC (onceC (txL c k).2 2).2).2) else ((txL c k).1,(onceC (txL c k).2 2).2):=rfl
structure TxI (c:DCur) (k:Nat) (p:List DWrite × DCur):Prop where
 cur:CurOK p.2
 code:p.2.code=c.code
 sec:∀ w ∈ p.1,(w.sec=0∨w.sec=70∨w.sec=71∨w.sec=72)∧w.sec < keyT k
 data:∀ w ∈ p.1,w.data.length=32
 inc:∀ i,(h:i + 1 < p.1.length)→p.1[i].sec < p.1[i + 1].sec
 len:p.1.length≤k
 one:2≤k→1≤p.1.length
theorem txL_ok {c:DCur} (h:CurOK c):∀ k,k≤4→TxI c k (txL c k)
 | 0,_=>⟨h,rfl,by simp [txL],by simp [txL],by simp [txL],by simp [txL],by omega⟩
 | k + 1,hk=>by
  have ih:=txL_ok h k (by omega)
  have hkeys:(keyT k=0∨keyT k=70∨keyT k=71∨keyT k=72)∧keyT k < keyT (k + 1)∧(k=1→keyT k=70):=by
   have:k=0∨k=1∨k=2∨k=3:=by omega
   rcases this with rfl | rfl | rfl | rfl<;>decide
  have o1:=onceC_ok 2 ih.cur
  have d1:=onceC_code (txL c k).2 2
  obtain ⟨s1,s2,s3⟩:=secC_ok o1
  rw [txL_succ]
  split
  ·refine ⟨s2,by rw [s3,d1,ih.code],fun w hw => ?_,fun w hw => ?_,fun i hi => ?_,by have:=ih.len;simp;omega,fun _=>by simp⟩
   ·rcases List.mem_append.1 hw with h1 | h1
    ·have:=ih.sec w h1
     exact ⟨this.1,by omega⟩
    ·rw [List.mem_singleton] at h1
     rw [h1]
     exact ⟨hkeys.1,hkeys.2.1⟩
   ·rcases List.mem_append.1 hw with h1 | h1
    ·exact ih.data w h1
    ·rw [List.mem_singleton] at h1
     rw [h1]
     exact s1
   ·simp only [List.length_append,List.length_singleton] at hi
    by_cases hl:i + 1 < (txL c k).1.length
    ·rw [List.getElem_append_left (by omega),List.getElem_append_left hl]
     exact ih.inc i hl
    ·have e:i + 1=(txL c k).1.length:=by omega
     have h0:i < (txL c k).1.length:=by omega
     rw [List.getElem_append_left h0,List.getElem_append_right (by omega)]
     simp only [List.getElem_singleton]
     exact (ih.sec _ (List.getElem_mem h0)).2
  ·rename_i hno
   refine ⟨o1,by rw [d1,ih.code],fun w hw => ?_,ih.data,ih.inc,by have:=ih.len;simp only;omega,fun h2 => ?_⟩
   ·have:=ih.sec w hw
    exact ⟨this.1,by omega⟩
   ·by_cases h1:k=1
    ·exact absurd (.inr (hkeys.2.2 h1)) hno
    ·exact ih.one (by omega)
theorem spec_l04Txn (nl:Option Bool) (c:DCur) (hc:CurOK c) (hl:c.code.length≤1048576):Snd Try.prog 90 [wCur nl c] (.row 2 ((txL c 4).1.map cWrite)) [wCur nl (txL c 4).2]:=Runs.snd (M:=M) (c:=⟨1,[2,3,5,7,8,9,10,18],[],[(1,[0,2,3,7,8,9,10,18])]⟩) tok ks mixed Try.func90 (p := [0]) (by kernel_rfl) (by rfl) (by rfl) <| by
 obtain ⟨Q,hQ⟩:∃ Q,Q=txL c 4:=⟨_,rfl⟩
 rw [←hQ]
 have hz2:txL c 0=([],c):=rfl
 (try simp -implicitDefEqProofs (disch:=first|exact dd|fail)[Try.f90]);(repeat'((with_reducible first|(refine Br.out ?_ ?_<;>intro h<;>(try(have h0:=h;simp only[bH]at h)))|fail)<;>(try simp -implicitDefEqProofs (disch:=first|exact dd|fail)[Try.f90])))
 refine AL_up (fun (j:Nat)=>4 - j) (fun (j:Nat) => [(9, .int .i64 j),(3, .ref 384 none 2 0 (txL c j).1.length (some false))]) (fun (j:Nat) => [(0, .box [.frz 1 nl ((txL c j).2.code.map cu), .int .i64 (txL c j).2.i, .int .i64 (txL c j).2.h]),(384, .row 2 ((txL c j).1.map cWrite) [])]) (fun j=>j≤4) 0 (by rw [hz2];rfl) (by omega) ?_
 intro j n1 hj ih
 have hI:=txL_ok hc j hj
 have hl4:=hI.len
 have htk:=takeM (f:=cWrite) (rfl:(txL c j).1.length=(txL c j).1.length)
 rcases Nat.lt_or_ge j 4 with hlt | hge
 ·have hjj:=ih (j + 1) (by omega) (by omega)
  rw [txL_succ] at hjj
  have q1:=hI.cur
  have q2:=hI.code
  generalize txL c j=X at *
  have c1:=spec_l01Once nl X.2 2 q1 (by rw [q2];exact hl)
  have o1:=onceC_ok 2 q1
  have d1:=onceC_code X.2 2
  generalize onceC X.2 2=o at *
  have c2:=spec_l03Sector nl o.2 o1 (by rw [d1,q2];exact hl)
  generalize secC o.2=y at *
  have hi4:(j:Int) < 4:=by omega
  have h30:X.1.length≤1073741823:=by omega
  have hcase:j=0∨j=1∨j=2∨j=3:=by omega
  cases ho:o.1 with
  | true=>
   rw [if_pos (.inl ho)] at hjj
   simp only [List.map_append,List.map_cons,List.map_nil,cWrite,List.length_append,List.length_cons,List.length_nil] at hjj
   rcases hcase with rfl | rfl | rfl | rfl
   all_goals simp only [show keyT 0=0 from rfl,show keyT 1=70 from rfl,show keyT 2=71 from rfl,show keyT 3=72 from rfl] at hjj
   all_goals (try simp -implicitDefEqProofs (disch:=first|exact dd|fail)[Try.f90,ho,htk,h30]);(repeat'((with_reducible first|(refine Br.out ?_ ?_<;>intro h<;>(try(have h0:=h;simp only[bH]at h)))|refine AC_snd (c1) ?_|refine AC_snd (c2) ?_|fail)<;>(try simp -implicitDefEqProofs (disch:=first|exact dd|fail)[Try.f90,ho,htk,h30])))
   all_goals first | exact hjj
  | false=>
   rcases hcase with rfl | rfl | rfl | rfl
   ·rw [if_neg (by rw [ho];decide)] at hjj
    (try simp -implicitDefEqProofs (disch:=first|exact dd|fail)[Try.f90,ho,htk,h30]);(repeat'((with_reducible first|(refine Br.out ?_ ?_<;>intro h<;>(try(have h0:=h;simp only[bH]at h)))|refine AC_snd (c1) ?_|refine AC_snd (c2) ?_|fail)<;>(try simp -implicitDefEqProofs (disch:=first|exact dd|fail)[Try.f90,ho,htk,h30])))
    all_goals first | exact hjj
   ·rw [if_pos (.inr (by decide))] at hjj
    simp only [List.map_append,List.map_cons,List.map_nil,cWrite,List.length_append,List.length_cons,List.length_nil,show keyT 0=0 from rfl,show keyT 1=70 from rfl,show keyT 2=71 from rfl,show keyT 3=72 from rfl] at hjj
    (try simp -implicitDefEqProofs (disch:=first|exact dd|fail)[Try.f90,ho,htk,h30]);(repeat'((with_reducible first|(refine Br.out ?_ ?_<;>intro h<;>(try(have h0:=h;simp only[bH]at h)))|refine AC_snd (c1) ?_|refine AC_snd (c2) ?_|fail)<;>(try simp -implicitDefEqProofs (disch:=first|exact dd|fail)[Try.f90,ho,htk,h30])))
    all_goals first | exact hjj
   ·rw [if_neg (by rw [ho];decide)] at hjj
    (try simp -implicitDefEqProofs (disch:=first|exact dd|fail)[Try.f90,ho,htk,h30]);(repeat'((with_reducible first|(refine Br.out ?_ ?_<;>intro h<;>(try(have h0:=h;simp only[bH]at h)))|refine AC_snd (c1) ?_|refine AC_snd (c2) ?_|fail)<;>(try simp -implicitDefEqProofs (disch:=first|exact dd|fail)[Try.f90,ho,htk,h30])))
    all_goals first | exact hjj
   ·rw [if_neg (by rw [ho];decide)] at hjj
    (try simp -implicitDefEqProofs (disch:=first|exact dd|fail)[Try.f90,ho,htk,h30]);(repeat'((with_reducible first|(refine Br.out ?_ ?_<;>intro h<;>(try(have h0:=h;simp only[bH]at h)))|refine AC_snd (c1) ?_|refine AC_snd (c2) ?_|fail)<;>(try simp -implicitDefEqProofs (disch:=first|exact dd|fail)[Try.f90,ho,htk,h30])))
    all_goals first | exact hjj
 ·have h4:j=4:=by omega
  rw [h4] at htk ⊢
  rw [←hQ] at htk ⊢
  (try simp -implicitDefEqProofs (disch:=first|exact dd|fail)[Try.f90,htk]);(repeat'((with_reducible first|(refine Br.out ?_ ?_<;>intro h<;>(try(have h0:=h;simp only[bH]at h)))|fail)<;>(try simp -implicitDefEqProofs (disch:=first|exact dd|fail)[Try.f90,htk])))
def jdC (code:Str):List Str:=(jdL (newC code) 3).1
def txC (code:Str):List DWrite:=(txL (curN (newC code) 9) 4).1
theorem jdC_ok (code:Str):(jdC code).length=73∧(∀ s ∈ jdC code,s.length=32)∧gS (jdC code) 1=zero32:=(jdL_ok (newC_ok code) 3).2.2
theorem txC_ok (code:Str):TxnL (txC code):=by
 have h:=txL_ok (curN_ok (newC_ok code) 9).1 4 (by decide)
 exact ⟨⟨h.one (by decide),h.len⟩,fun w hw=>(h.sec w hw).1,h.data,h.inc⟩
theorem spec_MakeJournalDisk (nl:Option Bool) (code:Str) (hl:code.length≤1048576):Snd Try.prog 34 [.frz 1 nl (code.map cu)] (rDisk ⟨jdC code,[]⟩) [.unk]:=Runs.snd (M:=M) (c:=⟨1,[2],[],[]⟩) tok ks mixed Try.func34 (p := []) (by kernel_rfl) (by rfl) (by rfl) <| by
 have c1:=spec_l01New nl code hl
 have e2:(newC code).code=code:=rfl
 have o1:=newC_ok code
 unfold jdC
 generalize newC code=c at *
 have c2:=spec_l04Disk nl c o1 (by rw [e2];exact hl)
 generalize jdL c 3=R at *
 have t1:=takeM (f:=cs) (rfl:R.1.length=R.1.length)
 (try simp -implicitDefEqProofs (disch:=first|exact dd|fail)[Try.f34,t1]);(repeat'((with_reducible first|(refine Br.out ?_ ?_<;>intro h<;>(try(have h0:=h;simp only[bH]at h)))|refine AC_snd (c1) ?_|refine AC_snd (c2) ?_|fail)<;>(try simp -implicitDefEqProofs (disch:=first|exact dd|fail)[Try.f34,t1])))
theorem spec_MakeTxn (nl:Option Bool) (code:Str) (hl:code.length≤1048576):Snd Try.prog 35 [.frz 1 nl (code.map cu)] (.row 2 ((txC code).map cWrite)) [.unk]:=Runs.snd (M:=M) (c:=⟨1,[2],[],[]⟩) tok ks mixed Try.func35 (p := []) (by kernel_rfl) (by rfl) (by rfl) <| by
 have c1:=spec_l25New nl code 9 (by decide) hl
 obtain ⟨o1,e1⟩:=curN_ok (newC_ok code) 9
 have e2:(newC code).code=code:=rfl
 unfold txC
 generalize newC code=z at *
 simp only [show ((9:Nat):Int)=9 from rfl] at c1
 generalize curN z 9=c at *
 have c2:=spec_l04Txn nl c o1 (by rw [e1,e2];exact hl)
 generalize txL c 4=R at *
 have t1:=takeM (f:=cWrite) (rfl:R.1.length=R.1.length)
 (try simp -implicitDefEqProofs (disch:=first|exact dd|fail)[Try.f35,t1]);(repeat'((with_reducible first|(refine Br.out ?_ ?_<;>intro h<;>(try(have h0:=h;simp only[bH]at h)))|refine AC_snd (c1) ?_|refine AC_snd (c2) ?_|fail)<;>(try simp -implicitDefEqProofs (disch:=first|exact dd|fail)[Try.f35,t1])))
end Go.Proofs.Ytfkkfhafijgdaaa
