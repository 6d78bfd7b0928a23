import Derived.Test.YtfkkfhafijgdaaaP04m
namespace Go.Proofs.Ytfkkfhafijgdaaa
open Go.Fw
set_option linter.unusedVariables false
set_option linter.unusedSimpArgs false
set_option maxHeartbeats 4000000
set_option maxRecDepth 8000
theorem gS_get {S:List Str} {i:Nat} (h:i < S.length):gS S i=S[i]:=by unfold gS;simp [h]
theorem txnS_len {q:Int} {l:List DWrite}:(txnS q l).length=2 * l.length + 7:=by
 unfold txnS
 simp only [List.length_append,List.length_map,jW_len,clearS,List.length_cons,List.length_nil]
 omega
theorem laws_FnJournal (n1:Option Bool) (code:Str) (hlen:code.length≤maxLen):Snd Try.prog 9 [.frz 1 n1 (code.map cu)] (.bool true) [.unk]:=Runs.snd (M:=M) (c:=⟨1,[2,3,4,5,6,7,8,9,10,11,13,16,19,34,51,52,53,60,66,67,68,69,75],[],[(1,[0,2,3,4,5,6,7,8,9,16,19,34,51,52,53,60,69,75]),(2,[0,2,3,4,5,6,7,8,9,10,11,16,19,34,51,52,53,60,66,67,68,69,75]),(3,[0,2,3,4,5,6,7,8,9,10,11,16,19,34,51,52,53,60,66,67,68,69,75])]⟩) tok ks mixed Try.func9 (p := []) (by kernel_rfl) (by rfl) (by rfl) <| by
 by_cases hl:code.length≤1048576
 ·have hgt:¬ (1048576:Int) < code.length:=by omega
  have cD:=spec_MakeJournalDisk n1 code hl
  have cT:=spec_MakeTxn n1 code hl
  have cN:=spec_MakeNum n1 code 3 (by decide) hl
  have cK:=spec_MakeKeep n1 code 30 (by decide) hl
  obtain ⟨d1,d2,d3⟩:=jdC_ok code
  have ht:=txC_ok code
  have hN:=numC_val code 3
  have hKl:=kpC_len code 30
  generalize jdC code=D at *
  generalize txC code=l at *
  generalize numC code 3=N at *
  generalize kpC code 30=K at *
  have h4:=ht.len
  have x0:DOk ⟨D,[]⟩:=⟨d1,d2,by simp,by simp⟩
  have cS:=fun a=>impl_TxnSteps a 7 l (by decide) ht
  have hSl:=txnS_len (q:=7) (l:=l)
  have cX:=fun a b c=>impl_IsTxn a b c ⟨D,[]⟩ l (by simp only;omega) (by simp) (by omega)
  rw [ht.txn x0.disk d1] at cX
  obtain ⟨n,hn⟩:=Int.eq_ofNat_of_zero_le (show 0≤N % (2 * l.length + 7 + 1:Nat) from Int.emod_nonneg _ (by omega))
  have hnlt:n < 2 * l.length + 7 + 1:=by
   have:=Int.emod_lt_of_pos N (show (0:Int) < (2 * l.length + 7 + 1:Nat) by omega)
   omega
  obtain ⟨M,hM⟩:∃ M:Nat,M=2 * l.length + 7:=⟨_,rfl⟩
  rw [←hM] at hSl hn hnlt
  have w1:IntKind.i64.wrap ((M:Int) + 1)=M + 1:=wrap64_in (by omega) (by omega)
  have e1':N % ((M:Int) + 1)=n:=by
   rw [show ((M + 1:Nat):Int)=(M:Int) + 1 by omega] at hn
   exact hn
  have e1:N.tmod ((M:Int) + 1)=n:=by rw [Int.tmod_eq_emod_of_nonneg hN.1];exact e1'
  have b0:¬ ((M:Int) + 1=0):=by omega
  have b1:¬ M=0:=by omega
  have b2:¬ (M:Int)=0:=by omega
  obtain ⟨r,hr,hrec,hcase⟩:=journal_main (D:=D) (q:=7) (l:=l) K n d1 d2 d3 (by decide) ht
  rw [hSl] at hcase
  have hx:isDisk (((txnS 7 l).take n).foldl stepD ⟨D,[]⟩)=true:=runSt_disk x0.disk
  have hxl:=isDisk_iff.1 hx
  have cR:=fun a b c=>impl_RunSteps a b c ⟨D,[]⟩ (txnS 7 l) n (by simp only;omega) (by simp) (by omega)
  unfold runSt at cR
  rw [Int.toNat_natCast] at cR
  generalize ((txnS 7 l).take n).foldl stepD ⟨D,[]⟩=X at *
  have cC:=fun a b c=>impl_CrashDisk a b c X K hx (by omega)
  have cV:=fun a b=>impl_RecoverDisk a b (crashD X K) (by
   unfold crashD
   rw [if_pos hx]
   simp only
   rw [storeAll_len]
   omega) (by
   unfold crashD
   rw [if_pos hx]
   simp)
  rw [hr] at cV
  generalize crashD X K=Y at *
  obtain ⟨rok,rp,rn⟩:=hrec
  have rd:=rok.disk
  have r73:=rok.len
  obtain ⟨S,P⟩:=r
  simp only at rp r73 hcase
  subst rp
  obtain ⟨j1,j2,j3⟩:=j_none rn
  have cJ:=fun a b=>impl_ReadJournal a b ⟨S,[]⟩ (by simp only;omega) (by simp)
  rw [j1,j2,j3] at cJ
  have cRd:=fun (i:Nat) (hi:i < 73)=>fun a b=>impl_ReadSector a b ⟨S,[]⟩ i rd (by simp only;omega)
  have hrd:∀ i,i < 73→readD ⟨S,[]⟩ i=gS S i:=fun i _=>readD_gS rfl
  have hts:=takeM (f:=cStep) hSl
  have htl:=takeM (f:=cWrite) (rfl:l.length=l.length)
  have htd:=takeM (f:=cs) d1
  have htS:=takeM (f:=cs) r73
  have htK:=takeM (f:=cb) (rfl:K.length=K.length)
  have htX1:=takeM (f:=cs) (rfl:X.secs.length=X.secs.length)
  have htX2:=takeM (f:=cWrite) (rfl:X.pend.length=X.pend.length)
  have htY1:=takeM (f:=cs) (rfl:Y.secs.length=Y.secs.length)
  have htY2:=takeM (f:=cWrite) (rfl:Y.pend.length=Y.pend.length)
  simp only [fDisk,rDisk,List.map_nil,show ((3:Nat):Int)=3 from rfl,show ((30:Nat):Int)=30 from rfl] at cD cX cR cC cV cJ cRd cN cK
  generalize txnS 7 l=ST at *
  (try simp -implicitDefEqProofs (maxSteps:=2000000) (disch:=first|exact dd|fail)[Try.f9,hgt,d1,hSl,w1,e1,e1',b0,b1,b2,hts,htl,htd,htS,htK,htX1,htX2,htY1,htY2,r73]);(repeat'((with_reducible first|(refine Br.out ?_ ?_<;>intro h<;>(try(have h0:=h;simp only[bH]at h)))|refine AC_snd (cD) ?_|refine AC_snd (cT) ?_|refine AC_snd (cS _) ?_|refine AC_snd (cX _ _ _) ?_|refine AC_snd (cN) ?_|refine AC_snd (cR _ _ _) ?_|refine AC_snd (cK) ?_|refine AC_snd (cC _ _ _) ?_|refine AC_snd (cV _ _) ?_|fail)<;>(try simp -implicitDefEqProofs (maxSteps:=2000000) (disch:=first|exact dd|fail)[Try.f9,hgt,d1,hSl,w1,e1,e1',b0,b1,b2,hts,htl,htd,htS,htK,htX1,htX2,htY1,htY2,r73])))
  rcases hcase with ⟨hold,hnM⟩ | hall
  ·refine AL_fors (σ:=Bool) 52 73 (fun _ b => [(8, .bool true),(9, .bool b)]) (fun _ _ => []) (fun _ _=>True) true rfl trivial (fun i b n5 hlt _ ih => ?_) (fun b n5 _ => ?_)
   ·by_cases hin:1≤i∧i < 70
    ·have hj:=ih b trivial
     have i1:(1:Int)≤i:=by omega
     have i2:(i:Int) < 70:=by omega
     (try simp -implicitDefEqProofs (maxSteps:=2000000) (disch:=first|exact dd|fail)[Try.f9,hlt,i1,i2,hin,d1,r73]);(repeat'((with_reducible first|(refine Br.out ?_ ?_<;>intro h<;>(try(have h0:=h;simp only[bH]at h)))|fail)<;>(try simp -implicitDefEqProofs (maxSteps:=2000000) (disch:=first|exact dd|fail)[Try.f9,hlt,i1,i2,hin,d1,r73])))
     all_goals first | exact hj | (exfalso;omega)
    ·have ho:outJ i:=by unfold outJ;omega
     have hiD:i < D.length:=by omega
     have hX:=hold i (by omega) ho
     have cRi:=cRd i (by omega)
     rw [hrd i (by omega),hX,gS_get hiD] at cRi
     (try simp -implicitDefEqProofs (maxSteps:=2000000) (disch:=first|exact dd|fail)[Try.f9,hlt,hiD,d1,r73]);(repeat'((with_reducible first|(refine Br.out ?_ ?_<;>intro h<;>(try(have h0:=h;simp only[bH]at h)))|fail)<;>(try simp -implicitDefEqProofs (maxSteps:=2000000) (disch:=first|exact dd|fail)[Try.f9,hlt,hiD,d1,r73])))
     all_goals try (exfalso;omega)
     all_goals (
      refine AL_fors (σ:=Unit) 68 l.length (fun k _ => [(11, .str ((lastW (l.take k) i).getD D[i]))]) (fun _ _ => []) (fun _ _=>True) () (by simp [lastW]) trivial (fun k _ n7 hk7 _ jh => ?_) (fun _ n7 _ => ?_)
      ·have hkk:=jh () trivial
       rw [List.take_succ_eq_append_getElem hk7,lastW_snoc] at hkk
       generalize lastW (l.take k) i=LW at *
       by_cases he:l[k].sec=i
       ·rw [if_pos he] at hkk
        simp only [Option.getD_some] at hkk
        (try simp -implicitDefEqProofs (maxSteps:=2000000) (disch:=first|exact dd|fail)[Try.f9,hk7,he,cWrite]);(repeat'((with_reducible first|(refine Br.out ?_ ?_<;>intro h<;>(try(have h0:=h;simp only[bH]at h)))|fail)<;>(try simp -implicitDefEqProofs (maxSteps:=2000000) (disch:=first|exact dd|fail)[Try.f9,hk7,he,cWrite])))
        all_goals first | exact hkk
       ·rw [if_neg he] at hkk
        (try simp -implicitDefEqProofs (maxSteps:=2000000) (disch:=first|exact dd|fail)[Try.f9,hk7,he,cWrite]);(repeat'((with_reducible first|(refine Br.out ?_ ?_<;>intro h<;>(try(have h0:=h;simp only[bH]at h)))|fail)<;>(try simp -implicitDefEqProofs (maxSteps:=2000000) (disch:=first|exact dd|fail)[Try.f9,hk7,he,cWrite])))
        all_goals first | exact hkk
      ·rw [List.take_length]
       generalize (lastW l i).getD D[i]=W at *
       cases b with
       | true=>
        have hj:=ih (decide (D[i]=W)) trivial
        by_cases he:D[i]=W
        ·simp only [he,decide_true] at hj
         (try simp -implicitDefEqProofs (maxSteps:=2000000) (disch:=first|exact dd|fail)[Try.f9,he,hiD,d1,r73,htd,htS]);(repeat'((with_reducible first|(refine Br.out ?_ ?_<;>intro h<;>(try(have h0:=h;simp only[bH]at h)))|refine AC_snd (cRi _ _) ?_|fail)<;>(try simp -implicitDefEqProofs (maxSteps:=2000000) (disch:=first|exact dd|fail)[Try.f9,he,hiD,d1,r73,htd,htS])))
         all_goals first | exact hj
        ·simp only [he,decide_false] at hj
         (try simp -implicitDefEqProofs (maxSteps:=2000000) (disch:=first|exact dd|fail)[Try.f9,he,hiD,d1,r73,htd,htS]);(repeat'((with_reducible first|(refine Br.out ?_ ?_<;>intro h<;>(try(have h0:=h;simp only[bH]at h)))|refine AC_snd (cRi _ _) ?_|fail)<;>(try simp -implicitDefEqProofs (maxSteps:=2000000) (disch:=first|exact dd|fail)[Try.f9,he,hiD,d1,r73,htd,htS])))
         all_goals first | exact hj
       | false=>
        have hj:=ih false trivial
        (try simp -implicitDefEqProofs (maxSteps:=2000000) (disch:=first|exact dd|fail)[Try.f9,hiD,d1,r73,htd,htS]);(repeat'((with_reducible first|(refine Br.out ?_ ?_<;>intro h<;>(try(have h0:=h;simp only[bH]at h)))|refine AC_snd (cRi _ _) ?_|fail)<;>(try simp -implicitDefEqProofs (maxSteps:=2000000) (disch:=first|exact dd|fail)[Try.f9,hiD,d1,r73,htd,htS])))
        all_goals first | exact hj)
   ·have m1:(n:Int) < M:=by omega
    cases b
    all_goals (try simp -implicitDefEqProofs (maxSteps:=2000000) (disch:=first|exact dd|fail)[Try.f9,m1,hnM,r73,htS,hSl]);(repeat'((with_reducible first|(refine Br.out ?_ ?_<;>intro h<;>(try(have h0:=h;simp only[bH]at h)))|refine AC_snd (cJ _ _) ?_|fail)<;>(try simp -implicitDefEqProofs (maxSteps:=2000000) (disch:=first|exact dd|fail)[Try.f9,m1,hnM,r73,htS,hSl])))
  ·refine AL_fors (σ:=Bool) 52 73 (fun _ b => [(8, .bool b),(9, .bool true)]) (fun _ _ => []) (fun _ _=>True) true rfl trivial (fun i b n5 hlt _ ih => ?_) (fun b n5 _ => ?_)
   ·by_cases hin:1≤i∧i < 70
    ·have hj:=ih b trivial
     have i1:(1:Int)≤i:=by omega
     have i2:(i:Int) < 70:=by omega
     (try simp -implicitDefEqProofs (maxSteps:=2000000) (disch:=first|exact dd|fail)[Try.f9,hlt,i1,i2,hin,d1,r73]);(repeat'((with_reducible first|(refine Br.out ?_ ?_<;>intro h<;>(try(have h0:=h;simp only[bH]at h)))|fail)<;>(try simp -implicitDefEqProofs (maxSteps:=2000000) (disch:=first|exact dd|fail)[Try.f9,hlt,i1,i2,hin,d1,r73])))
     all_goals first | exact hj | (exfalso;omega)
    ·have ho:outJ i:=by unfold outJ;omega
     have hiD:i < D.length:=by omega
     have hX:=hall i (by omega) ho
     have cRi:=cRd i (by omega)
     rw [hrd i (by omega),hX,gS_get hiD] at cRi
     (try simp -implicitDefEqProofs (maxSteps:=2000000) (disch:=first|exact dd|fail)[Try.f9,hlt,hiD,d1,r73]);(repeat'((with_reducible first|(refine Br.out ?_ ?_<;>intro h<;>(try(have h0:=h;simp only[bH]at h)))|fail)<;>(try simp -implicitDefEqProofs (maxSteps:=2000000) (disch:=first|exact dd|fail)[Try.f9,hlt,hiD,d1,r73])))
     all_goals try (exfalso;omega)
     all_goals (
      refine AL_fors (σ:=Unit) 68 l.length (fun k _ => [(11, .str ((lastW (l.take k) i).getD D[i]))]) (fun _ _ => []) (fun _ _=>True) () (by simp [lastW]) trivial (fun k _ n7 hk7 _ jh => ?_) (fun _ n7 _ => ?_)
      ·have hkk:=jh () trivial
       rw [List.take_succ_eq_append_getElem hk7,lastW_snoc] at hkk
       generalize lastW (l.take k) i=LW at *
       by_cases he:l[k].sec=i
       ·rw [if_pos he] at hkk
        simp only [Option.getD_some] at hkk
        (try simp -implicitDefEqProofs (maxSteps:=2000000) (disch:=first|exact dd|fail)[Try.f9,hk7,he,cWrite]);(repeat'((with_reducible first|(refine Br.out ?_ ?_<;>intro h<;>(try(have h0:=h;simp only[bH]at h)))|fail)<;>(try simp -implicitDefEqProofs (maxSteps:=2000000) (disch:=first|exact dd|fail)[Try.f9,hk7,he,cWrite])))
        all_goals first | exact hkk
       ·rw [if_neg he] at hkk
        (try simp -implicitDefEqProofs (maxSteps:=2000000) (disch:=first|exact dd|fail)[Try.f9,hk7,he,cWrite]);(repeat'((with_reducible first|(refine Br.out ?_ ?_<;>intro h<;>(try(have h0:=h;simp only[bH]at h)))|fail)<;>(try simp -implicitDefEqProofs (maxSteps:=2000000) (disch:=first|exact dd|fail)[Try.f9,hk7,he,cWrite])))
        all_goals first | exact hkk
      ·rw [List.take_length]
       generalize (lastW l i).getD D[i]=W at *
       cases b with
       | true=>
        have hj:=ih (decide (W=D[i])) trivial
        by_cases he:W=D[i]
        ·simp only [he,decide_true] at hj
         subst he
         (try simp -implicitDefEqProofs (maxSteps:=2000000) (disch:=first|exact dd|fail)[Try.f9,hiD,d1,r73,htd,htS]);(repeat'((with_reducible first|(refine Br.out ?_ ?_<;>intro h<;>(try(have h0:=h;simp only[bH]at h)))|refine AC_snd (cRi _ _) ?_|fail)<;>(try simp -implicitDefEqProofs (maxSteps:=2000000) (disch:=first|exact dd|fail)[Try.f9,hiD,d1,r73,htd,htS])))
         all_goals first | exact hj
        ·simp only [he,decide_false] at hj
         (try simp -implicitDefEqProofs (maxSteps:=2000000) (disch:=first|exact dd|fail)[Try.f9,he,hiD,d1,r73,htd,htS]);(repeat'((with_reducible first|(refine Br.out ?_ ?_<;>intro h<;>(try(have h0:=h;simp only[bH]at h)))|refine AC_snd (cRi _ _) ?_|fail)<;>(try simp -implicitDefEqProofs (maxSteps:=2000000) (disch:=first|exact dd|fail)[Try.f9,he,hiD,d1,r73,htd,htS])))
         all_goals first | exact hj
       | false=>
        have hj:=ih false trivial
        (try simp -implicitDefEqProofs (maxSteps:=2000000) (disch:=first|exact dd|fail)[Try.f9,hiD,d1,r73,htd,htS]);(repeat'((with_reducible first|(refine Br.out ?_ ?_<;>intro h<;>(try(have h0:=h;simp only[bH]at h)))|refine AC_snd (cRi _ _) ?_|fail)<;>(try simp -implicitDefEqProofs (maxSteps:=2000000) (disch:=first|exact dd|fail)[Try.f9,hiD,d1,r73,htd,htS])))
        all_goals first | exact hj)
   ·cases b
    all_goals (try simp -implicitDefEqProofs (maxSteps:=2000000) (disch:=first|exact dd|fail)[Try.f9,r73,htS,hSl]);(repeat'((with_reducible first|(refine Br.out ?_ ?_<;>intro h<;>(try(have h0:=h;simp only[bH]at h)))|refine AC_snd (cJ _ _) ?_|fail)<;>(try simp -implicitDefEqProofs (maxSteps:=2000000) (disch:=first|exact dd|fail)[Try.f9,r73,htS,hSl])))
 ·have hgt:(1048576:Int) < code.length:=by omega
  (try simp -implicitDefEqProofs (maxSteps:=2000000) (disch:=first|exact dd|fail)[Try.f9,hgt]);(repeat'((with_reducible first|(refine Br.out ?_ ?_<;>intro h<;>(try(have h0:=h;simp only[bH]at h)))|fail)<;>(try simp -implicitDefEqProofs (maxSteps:=2000000) (disch:=first|exact dd|fail)[Try.f9,hgt])))
end Go.Proofs.Ytfkkfhafijgdaaa
