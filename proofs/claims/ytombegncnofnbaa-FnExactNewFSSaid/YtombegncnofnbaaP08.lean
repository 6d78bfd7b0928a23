import Derived.Test.YtombegncnofnbaaP07
import Derived.Test.YtombegncnofnbaaM11
import Derived.Test.YtombegncnofnbaaBx
namespace Go.Proofs.Ytombegncnofnbaa
open Go.Fw
set_option linter.unusedVariables false
set_option linter.unusedSimpArgs false
set_option maxHeartbeats 8000000 in
set_option maxRecDepth 8000 in
theorem impl_IsFS (n1 n2 n3:Option Bool) (f:DFS) (hs:SmF f):Snd Try.prog 19 [fFS n1 n2 n3 f] (.bool (isFS f)) [.unk]:=Runs.snd (M:=M) (c:=⟨1,[1,2,4,6,7,9,10,11,12,13,14,40,42,43,44,45,65,68,69,70,71,76,79,80,81,82,87,89,90,91,92,97,107,127,131,132,133,134,146],[],[(1,[0,1,2,6,7,9,10,11,12,13,14,40,42,43,44,45,65,68,69,70,71,76,79,80,81,82,87,89,90,91,92,97,107,127,131,132,133,134,146]),(3,[0,1,2,4,7,9,10,11,12,13,14,40,42,43,44,45,65,68,69,70,71,76,79,80,81,82,87,89,90,91,92,97,107,127,131,132,133,134,146]),(5,[0,1,2,4,6,7,13,14,40,42,43,44,45,65,68,69,70,71,76,79,80,81,82,87,92,97,107,127,131,132,133,134,146]),(6,[0,1,2,4,6,7,9,13,14,40,42,43,44,45,65,68,69,70,71,76,79,80,81,82,87,89,90,91,92,97,107,127,131,132,133,134,146]),(7,[0,1,2,4,6,7,9,13,14,40,42,43,44,45,65,68,69,70,71,76,79,80,81,82,87,89,90,91,92,97,107,127,131,132,133,134,146]),(9,[0,1,2,4,6,7,9,10,11,12,40,42,43,44,45,65,68,69,70,71,76,79,80,81,82,87,89,90,91,92,97,107,127,131,132,133,134,146])]⟩) tok ks mixed Try.func19 (p := []) (by kernel_rfl) (by rfl) (by rfl) <| by
 (try simp -implicitDefEqProofs (disch:=first|exact dd|fail)[Try.f19]);(repeat'((with_reducible first|(refine Br.out ?_ ?_<;>intro h<;>(try(have h0:=h;simp only[bH]at h)))|fail)<;>(try simp -implicitDefEqProofs (disch:=first|exact dd|fail)[Try.f19])))
 all_goals try exact tr_no (fun H=>by have:=H.tick;have:=H.nq;have:=H.ni;have:=H.nd;omega)
 refine AL_for 44 f.quotas.length (fun i=>∀ q ∈ f.quotas.take i,QuotaOK q) rfl (by simp) (fun i n hlt he ih => ?_) (fun n he => ?_)
 ·(try simp -implicitDefEqProofs (disch:=first|exact dd|fail)[Try.f19,hlt]);(repeat'((with_reducible first|(refine Br.out ?_ ?_<;>intro h<;>(try(have h0:=h;simp only[bH]at h)))|fail)<;>(try simp -implicitDefEqProofs (disch:=first|exact dd|fail)[Try.f19,hlt])))
  all_goals first
   | exact tr_no (fun H=>by have:=H.quota _ (List.getElem_mem hlt);unfold QuotaOK at this;omega)
   | exact ih (all_take_succ hlt he (by unfold QuotaOK;omega))
 have hq:=all_take_len he
 (try simp -implicitDefEqProofs (disch:=first|exact dd|fail)[Try.f19]);(repeat'((with_reducible first|(refine Br.out ?_ ?_<;>intro h<;>(try(have h0:=h;simp only[bH]at h)))|fail)<;>(try simp -implicitDefEqProofs (disch:=first|exact dd|fail)[Try.f19])))
 refine AL_for 70 f.data.length (fun i=>∀ s ∈ f.data.take i,s.length=32) rfl (by simp) (fun i n hlt he ih => ?_) (fun n he => ?_)
 ·(try simp -implicitDefEqProofs (disch:=first|exact dd|fail)[Try.f19,hlt]);(repeat'((with_reducible first|(refine Br.out ?_ ?_<;>intro h<;>(try(have h0:=h;simp only[bH]at h)))|fail)<;>(try simp -implicitDefEqProofs (disch:=first|exact dd|fail)[Try.f19,hlt])))
  all_goals first
   | exact tr_no (fun H=>by have:=H.secs _ (List.getElem_mem hlt);omega)
   | exact ih (all_take_succ hlt he (by omega))
 have hd:=all_take_len he
 (try simp -implicitDefEqProofs (disch:=first|exact dd|fail)[Try.f19]);(repeat'((with_reducible first|(refine Br.out ?_ ?_<;>intro h<;>(try(have h0:=h;simp only[bH]at h)))|fail)<;>(try simp -implicitDefEqProofs (disch:=first|exact dd|fail)[Try.f19])))
 refine AL_fors (σ:=Unit) 81 f.inodes.length (fun _ _ => []) (fun i _ => [(896, .box (bs (usedL (allB (f.inodes.take i)))))]) (fun i _=>(∀ n ∈ f.inodes.take i,IsInode n)∧(∀ n ∈ f.inodes.take i,OwnOK n∧TailOK f.data n)∧(allB (f.inodes.take i)).Nodup) () rfl (by simp [allB]) (fun i _ n hlt hi ih => ?_) (fun _ n hi => ?_)
 ·obtain ⟨hi1,hi2,hi3⟩:=hi
  have hsn:=hs.inode _ (List.getElem_mem hlt)
  have hbl:=hsn.blocks
  have hmem:=List.getElem_mem hlt
  have hal:=allB_take hlt
  generalize hx:f.inodes[i]=x at *
  (try simp -implicitDefEqProofs (disch:=first|exact dd|fail)[Try.f19,hlt,hx,cInode]);(repeat'((with_reducible first|(refine Br.out ?_ ?_<;>intro h<;>(try(have h0:=h;simp only[bH]at h)))|refine AC_snd (impl_IsInode _ _ _ x hsn) ?_|fail)<;>(try simp -implicitDefEqProofs (disch:=first|exact dd|fail)[Try.f19,hlt,hx,cInode])))
  all_goals try exact tr_no (fun H:IsFS f=>tr_not.1 (by assumption) (H.inode _ hmem))
  have hin:IsInode x:=tr_iff.1 (by assumption)
  refine AL_fors (σ:=Unit) 91 x.blocks.length (fun _ _ => []) (fun j _ => [(896, .box (bs (usedL (allB (f.inodes.take i)++real (x.blocks.take j)))))]) (fun j _=>(∀ b ∈ x.blocks.take j,b ≠ -1→ownerOf b=x.uid)∧(allB (f.inodes.take i)++real (x.blocks.take j)).Nodup∧∀ k < j,TailAt f.data x k) () (by simp [real]) ?_ (fun j _ n hjt hj jh => ?_) (fun _ n hj => ?_)
  ·simpa [real] using hi3
  ·obtain ⟨hj1,hj2,hj3⟩:=hj
   have hxo:=inode_used hin (by omega)
   have hsz:=hxo.size
   have hbs:=blocks_size hxo hjt
   have hrt:=real_take hjt
   by_cases hb:x.blocks[j] = -1
   ·rw [if_pos hb] at hrt
    have hi:=jh () ⟨own_take hjt hj1 (fun e=>absurd hb e),by rw [hrt];exact hj2,lt_succ_all hj3 (fun b he e=>by rw [List.getElem?_eq_getElem hjt] at he;cases he;exact absurd hb e)⟩
    simp only [hrt] at hi
    (try simp -implicitDefEqProofs (disch:=first|exact dd|fail)[Try.f19,hlt,hjt,hx,hb,cInode]);(repeat'((with_reducible first|(refine Br.out ?_ ?_<;>intro h<;>(try(have h0:=h;simp only[bH]at h)))|fail)<;>(try simp -implicitDefEqProofs (disch:=first|exact dd|fail)[Try.f19,hlt,hjt,hx,hb,cInode])))
    exact hi
   ·rw [if_neg hb] at hrt
    by_cases ho:ownerOf x.blocks[j]=x.uid
    ·have hbr:=owner_range ho hxo.uid.1
     have hno:(allB f.inodes).Nodup→x.blocks[j] ∉ allB (f.inodes.take i)++real (x.blocks.take j):=by
      intro H
      have:=once_no hlt (j:=j) (by rw [hx];exact hjt) (by simp only [hx];exact hb) H
      simpa only [hx] using this
     have hta:TailOK f.data x→x.size - 32 * j < 32→zeroStr ((f.data.getD x.blocks[j].toNat []).drop (x.size - 32 * j).toNat)=true:=fun H e=>tail_no hxo hjt e hb H
     have hj4:(zeroStr ((f.data.getD x.blocks[j].toNat []).drop (x.size - 32 * j).toNat)=true∨¬ x.size - 32 * j < 32)→TailAt f.data x j:=by
      intro h1 b hg hb1 hs1
      rw [List.getElem?_eq_getElem hjt] at hg
      cases hg
      exact h1.resolve_right (fun e=>e hs1)
     have hov:=own_take hjt hj1 (fun _=>ho)
     obtain ⟨k,hbk⟩:=Int.eq_ofNat_of_zero_le hbr.1
     simp only [hbk] at hb ho hno hta hj4 hrt hbr
     have hk:k < 56:=by omega
     have hu:=usedL_get (bs:=allB (f.inodes.take i)++real (x.blocks.take j)) hk
     have hg:=bs_get hu
     have hset:=usedL_set (bs:=allB (f.inodes.take i)++real (x.blocks.take j)) (b:=(k:Int)) (by omega) (by omega)
     have hkd:k < f.data.length:=by omega
     have hdl:=hd _ (List.getElem_mem hkd)
     have hgd:f.data.getD k []=f.data[k]:=by simp [hkd]
     simp only [Int.toNat_natCast,hgd] at hta hj4 hset
     have e32:32 * (j:Int)=j * 32:=by omega
     rw [e32] at hta hj4 hbs
     have hb':¬ (k:Int) = -1:=by omega
     have htk:List.take (((f.data[k].length:Nat):Int) - (x.size - (j:Int) * 32)).toNat (List.drop (x.size - (j:Int) * 32).toNat f.data[k])=List.drop (x.size - (j:Int) * 32).toNat f.data[k]:=List.take_of_length_le (by rw [List.length_drop];omega)
     (try simp -implicitDefEqProofs (disch:=first|exact dd|fail)[Try.f19,hlt,hjt,hx,hbk,hb',ho,hg,hset,hkd,htk,cInode]);(repeat'((with_reducible first|(refine Br.out ?_ ?_<;>intro h<;>(try(have h0:=h;simp only[bH]at h)))|refine AC_snd (impl_BlockOwner _) ?_|refine AC_snd (impl_IsZeroes _ (by simp;omega)) ?_|fail)<;>(try simp -implicitDefEqProofs (disch:=first|exact dd|fail)[Try.f19,hlt,hjt,hx,hbk,hb',ho,hg,hset,hkd,htk,cInode])))
     all_goals first
      | exact tr_no (fun H:IsFS f=>hno H.once (List.mem_append.2 (by assumption)))
      | exact tr_no (fun H:IsFS f=>absurd (hta (H.tail x hmem) (by omega)) (by simp [*]))
      |(have hand:¬ (k:Int) ∈ allB (List.take i f.inodes)∧¬ (k:Int) ∈ real (List.take j x.blocks):=by assumption
        have hi:=jh () ⟨hov,by rw [hrt,←List.append_assoc];exact nodup_snoc hj2 (fun hm=>(List.mem_append.1 hm).elim hand.1 hand.2),lt_succ_all hj3 (hj4 (by first | exact .inl (by assumption) | exact .inr (by omega)))⟩
        simp only [hrt] at hi
        exact hi)
    ·(try simp -implicitDefEqProofs (disch:=first|exact dd|fail)[Try.f19,hlt,hjt,hx,hb,ho,cInode]);(repeat'((with_reducible first|(refine Br.out ?_ ?_<;>intro h<;>(try(have h0:=h;simp only[bH]at h)))|refine AC_snd (impl_BlockOwner _) ?_|fail)<;>(try simp -implicitDefEqProofs (disch:=first|exact dd|fail)[Try.f19,hlt,hjt,hx,hb,ho,cInode])))
     exact tr_no (fun H:IsFS f=>ho (H.own x hmem _ (List.getElem_mem hjt) hb))
  ·obtain ⟨hj1,hj2,hj3⟩:=hj
   rw [List.take_length] at hj1 hj2 ⊢
   have hi:=ih () ⟨all_take_succ hlt hi1 (by rw [hx];exact hin),all_take_succ hlt hi2 (by rw [hx];exact ⟨hj1,tail_yes hin hd hj3⟩),by rw [hal];exact hj2⟩
   simp only [hal] at hi
   (try simp -implicitDefEqProofs (disch:=first|exact dd|fail)[Try.f19]);(repeat'((with_reducible first|(refine Br.out ?_ ?_<;>intro h<;>(try(have h0:=h;simp only[bH]at h)))|fail)<;>(try simp -implicitDefEqProofs (disch:=first|exact dd|fail)[Try.f19])))
   exact hi
 ·rw [List.take_length] at hi ⊢
  obtain ⟨hi1,hi2,hi3⟩:=hi
  (try simp -implicitDefEqProofs (disch:=first|exact dd|fail)[Try.f19]);(repeat'((with_reducible first|(refine Br.out ?_ ?_<;>intro h<;>(try(have h0:=h;simp only[bH]at h)))|fail)<;>(try simp -implicitDefEqProofs (disch:=first|exact dd|fail)[Try.f19])))
  refine AL_for 133 f.data.length (fun i=>∀ k < i,∀ s,f.data[k]? = some s→(k:Int) ∉ allB f.inodes→zeroStr s=true) rfl (fun k hk=>absurd hk (Nat.not_lt_zero k)) (fun k n hkt hk kh => ?_) (fun n hk => ?_)
  ·have hu:=usedL_get (bs:=allB f.inodes) (show k < 56 by omega)
   have hg:=bs_get hu
   have hdl:=hd _ (List.getElem_mem hkt)
   (try simp -implicitDefEqProofs (disch:=first|exact dd|fail)[Try.f19,hkt,hg]);(repeat'((with_reducible first|(refine Br.out ?_ ?_<;>intro h<;>(try(have h0:=h;simp only[bH]at h)))|refine AC_snd (impl_IsZeroes _ (by omega)) ?_|fail)<;>(try simp -implicitDefEqProofs (disch:=first|exact dd|fail)[Try.f19,hkt,hg])))
   all_goals first
    | exact tr_no (fun H:IsFS f=>absurd (H.rest k _ (List.getElem?_eq_getElem hkt) (by assumption)) (by simp [*]))
    | exact kh (lt_succ_all hk (fun s hs' hn=>by first | exact absurd (by assumption) hn | (rw [List.getElem?_eq_getElem hkt] at hs';cases hs';assumption)))
  ·have h0:0 < f.inodes.length:=by omega
   (try simp -implicitDefEqProofs (disch:=first|exact dd|fail)[Try.f19,h0,cInode]);(repeat'((with_reducible first|(refine Br.out ?_ ?_<;>intro h<;>(try(have h0:=h;simp only[bH]at h)))|fail)<;>(try simp -implicitDefEqProofs (disch:=first|exact dd|fail)[Try.f19,h0,cInode])))
   all_goals
    rw [Bool.eq_iff_iff,decide_eq_true_eq,tr_iff]
    constructor
    ·intro hk2
     exact ⟨by omega,by omega,by omega,by omega,hq,hd,hi1,fun n hn=>(hi2 n hn).1,hi3,fun n hn=>(hi2 n hn).2,fun k s hs' hn=>hk k (List.getElem?_eq_some_iff.1 hs').1 s hs' hn,fun n hn=>by rw [List.getElem?_eq_getElem h0] at hn;cases hn;exact hk2⟩
    ·intro H
     exact H.root _ (List.getElem?_eq_getElem h0)
set_option maxHeartbeats 8000000 in
set_option maxRecDepth 8000 in
theorem spec_l08Used (n1 n2 n3:Option Bool) (f:DFS) (hs:SmF f) (hin:∀ n ∈ f.inodes,IsInode n):Snd Try.prog 30 [fFS n1 n2 n3 f] (.tup [.row 1 ((usedR f.inodes).map cb), .bool (tr (UsedOK f.inodes))]) [.unk]:=Runs.snd (M:=M) (c:=⟨1,[1,2,3,4,6,8,11,12,13,14,18,19,20,21,25,36],[],[(1,[0,1,2,3,4,11,12,13,14,21,25,36]),(2,[0,1,2,3,4,6,11,12,13,14,18,19,20,21,25,36]),(3,[0,1,2,3,4,6,11,12,13,14,18,19,20,21,25,36])]⟩) tok ks mixed Try.func30 (p := []) (by kernel_rfl) (by rfl) (by rfl) <| by
 have k2:=hs.inodes
 (try simp -implicitDefEqProofs (disch:=first|exact dd|fail)[Try.f30]);(repeat'((with_reducible first|(refine Br.out ?_ ?_<;>intro h<;>(try(have h0:=h;simp only[bH]at h)))|fail)<;>(try simp -implicitDefEqProofs (disch:=first|exact dd|fail)[Try.f30])))
 refine AL_fors (σ:=Unit) 13 f.inodes.length (fun _ _ => []) (fun i _ => [(512, .row 1 ((usedL (allB (f.inodes.take i))).map cb) [])]) (fun i _=>(∀ n ∈ f.inodes.take i,OwnOK n)∧(allB (f.inodes.take i)).Nodup) () rfl (by simp [allB]) (fun i _ n hlt hi ih => ?_) (fun _ n hi => ?_)
 ·obtain ⟨hi2,hi3⟩:=hi
  have hsn:=hs.inode _ (List.getElem_mem hlt)
  have hbl:=hsn.blocks
  have hmem:=List.getElem_mem hlt
  have hal:=allB_take hlt
  have hino:=hin _ hmem
  generalize hx:f.inodes[i]=x at *
  (try simp -implicitDefEqProofs (disch:=first|exact dd|fail)[Try.f30,hlt,hx,cInode]);(repeat'((with_reducible first|(refine Br.out ?_ ?_<;>intro h<;>(try(have h0:=h;simp only[bH]at h)))|fail)<;>(try simp -implicitDefEqProofs (disch:=first|exact dd|fail)[Try.f30,hlt,hx,cInode])))
  refine AL_fors (σ:=Unit) 20 x.blocks.length (fun _ _ => []) (fun j _ => [(512, .row 1 ((usedL (allB (f.inodes.take i)++real (x.blocks.take j))).map cb) [])]) (fun j _=>(∀ b ∈ x.blocks.take j,b ≠ -1→ownerOf b=x.uid)∧(allB (f.inodes.take i)++real (x.blocks.take j)).Nodup) () (by simp [real]) (by simpa [real] using hi3) (fun j _ n hjt hj jh => ?_) (fun _ n hj => ?_)
  ·obtain ⟨hj1,hj2⟩:=hj
   have hxo:=inode_used hino (by omega)
   have hrt:=real_take hjt
   by_cases hb:x.blocks[j] = -1
   ·rw [if_pos hb] at hrt
    have hi:=jh () ⟨own_take hjt hj1 (fun e=>absurd hb e),by rw [hrt];exact hj2⟩
    simp only [hrt] at hi
    (try simp -implicitDefEqProofs (disch:=first|exact dd|fail)[Try.f30,hlt,hjt,hx,hb,cInode]);(repeat'((with_reducible first|(refine Br.out ?_ ?_<;>intro h<;>(try(have h0:=h;simp only[bH]at h)))|fail)<;>(try simp -implicitDefEqProofs (disch:=first|exact dd|fail)[Try.f30,hlt,hjt,hx,hb,cInode])))
    exact hi
   ·rw [if_neg hb] at hrt
    by_cases ho:ownerOf x.blocks[j]=x.uid
    ·have hbr:=owner_range ho hxo.uid.1
     have hno:(allB f.inodes).Nodup→x.blocks[j] ∉ allB (f.inodes.take i)++real (x.blocks.take j):=by
      intro H
      have:=once_no hlt (j:=j) (by rw [hx];exact hjt) (by simp only [hx];exact hb) H
      simpa only [hx] using this
     have hov:=own_take hjt hj1 (fun _=>ho)
     obtain ⟨k,hbk⟩:=Int.eq_ofNat_of_zero_le hbr.1
     simp only [hbk] at hb ho hno hrt hbr
     have hk:k < 56:=by omega
     have hb':¬ (k:Int) = -1:=by omega
     have hu:=usedL_get (bs:=allB (f.inodes.take i)++real (x.blocks.take j)) hk
     have hset:=usedL_set (bs:=allB (f.inodes.take i)++real (x.blocks.take j)) (b:=(k:Int)) (by omega) (by omega)
     simp only [Int.toNat_natCast] at hset
     have hset2:(List.map cb (usedL (allB (f.inodes.take i)++real (x.blocks.take j)))).set k [.bool true]=(usedL (allB (f.inodes.take i)++(real (x.blocks.take j) ++ [(k:Int)]))).map cb:=by
      rw [←List.append_assoc,←hset,List.map_set]
      rfl
     have hlu:(usedL (allB (f.inodes.take i)++real (x.blocks.take j))).length=56:=usedL_len
     generalize usedL (allB (f.inodes.take i)++real (x.blocks.take j))=U at hu hset2 hlu ⊢
     (try simp -implicitDefEqProofs (disch:=first|exact dd|fail)[Try.f30,hlt,hjt,hx,hbk,hb',ho,hu,hlu,hset2,cb,cInode]);(repeat'((with_reducible first|(refine Br.out ?_ ?_<;>intro h<;>(try(have h0:=h;simp only[bH]at h)))|refine AC_snd (spec_BlockOwner _) ?_|fail)<;>(try simp -implicitDefEqProofs (disch:=first|exact dd|fail)[Try.f30,hlt,hjt,hx,hbk,hb',ho,hu,hlu,hset2,cb,cInode])))
     all_goals
      have huk:=(List.getElem?_eq_some_iff.1 hu).2
     ·have hm:(k:Int) ∈ allB (List.take i f.inodes)++real (List.take j x.blocks):=by
       rw [h] at huk
       exact of_decide_eq_true huk.symm
      have hn:¬ UsedOK f.inodes:=fun H=>hno H.2 hm
      exact ⟨usedR_no hn,tr_no hn⟩
     ·have hm:¬ (k:Int) ∈ allB (List.take i f.inodes)++real (List.take j x.blocks):=by
       rw [h] at huk
       exact of_decide_eq_false huk.symm
      have hi:=jh () ⟨hov,by rw [hrt,←List.append_assoc];exact nodup_snoc hj2 hm⟩
      simp only [hrt] at hi
      exact hi
    ·have hno:¬ UsedOK f.inodes:=fun H=>ho (H.1 x hmem _ (List.getElem_mem hjt) hb)
     (try simp -implicitDefEqProofs (disch:=first|exact dd|fail)[Try.f30,hlt,hjt,hx,hb,ho,cInode]);(repeat'((with_reducible first|(refine Br.out ?_ ?_<;>intro h<;>(try(have h0:=h;simp only[bH]at h)))|refine AC_snd (spec_BlockOwner _) ?_|fail)<;>(try simp -implicitDefEqProofs (disch:=first|exact dd|fail)[Try.f30,hlt,hjt,hx,hb,ho,cInode])))
     simp [usedR_no hno,tr_no hno]
  ·obtain ⟨hj1,hj2⟩:=hj
   rw [List.take_length] at hj1 hj2 ⊢
   have hi:=ih () ⟨all_take_succ hlt hi2 (by rw [hx];exact hj1),by rw [hal];exact hj2⟩
   simp only [hal] at hi
   (try simp -implicitDefEqProofs (disch:=first|exact dd|fail)[Try.f30]);(repeat'((with_reducible first|(refine Br.out ?_ ?_<;>intro h<;>(try(have h0:=h;simp only[bH]at h)))|fail)<;>(try simp -implicitDefEqProofs (disch:=first|exact dd|fail)[Try.f30])))
   exact hi
 ·rw [List.take_length] at hi ⊢
  have hy:UsedOK f.inodes:=hi
  (try simp -implicitDefEqProofs (disch:=first|exact dd|fail)[Try.f30]);(repeat'((with_reducible first|(refine Br.out ?_ ?_<;>intro h<;>(try(have h0:=h;simp only[bH]at h)))|fail)<;>(try simp -implicitDefEqProofs (disch:=first|exact dd|fail)[Try.f30])))
  exact ⟨by rw [usedR_yes hy],tr_yes hy⟩
set_option maxHeartbeats 8000000 in
set_option maxRecDepth 8000 in
theorem spec_IsFS (n1 n2 n3:Option Bool) (f:DFS) (hs:SmF f):Snd Try.prog 14 [fFS n1 n2 n3 f] (.bool (isFS f)) [.unk]:=Runs.snd (M:=M) (c:=⟨1,[1,2,4,6,7,8,9,10,12,13,35,37,38,39,40,52,55,56,57,58,63,70,77,79,80,81,82,100,103,104,105,106,141],[],[(1,[0,1,2,6,7,8,9,10,12,13,35,37,38,39,40,52,55,56,57,58,63,70,77,79,80,81,82,100,103,104,105,106,141]),(3,[0,1,2,4,7,8,9,10,12,13,35,37,38,39,40,52,55,56,57,58,63,70,77,79,80,81,82,100,103,104,105,106,141]),(5,[0,1,2,4,6,7,8,12,13,35,37,38,39,40,52,55,56,57,58,63,70,77,79,80,81,82,100,103,104,105,106,141]),(7,[0,1,2,4,6,7,8,9,10,35,37,38,39,40,52,55,56,57,58,63,70,77,79,80,81,82,100,103,104,105,106,141])]⟩) tok ks mixed Try.func14 (p := []) (by kernel_rfl) (by rfl) (by rfl) <| by
 have k2:=hs.inodes
 (try simp -implicitDefEqProofs (disch:=first|exact dd|fail)[Try.f14]);(repeat'((with_reducible first|(refine Br.out ?_ ?_<;>intro h<;>(try(have h0:=h;simp only[bH]at h)))|refine AC_snd (spec_l01In _ _ _) ?_|fail)<;>(try simp -implicitDefEqProofs (disch:=first|exact dd|fail)[Try.f14])))
 all_goals try exact tr_no (fun H=>by have:=H.tick;have:=H.nq;have:=H.ni;have:=H.nd;omega)
 refine AL_for 39 f.quotas.length (fun i=>∀ q ∈ f.quotas.take i,QuotaOK q) rfl (by simp) (fun i n hlt he ih => ?_) (fun n he => ?_)
 ·(try simp -implicitDefEqProofs (disch:=first|exact dd|fail)[Try.f14,hlt]);(repeat'((with_reducible first|(refine Br.out ?_ ?_<;>intro h<;>(try(have h0:=h;simp only[bH]at h)))|refine AC_snd (spec_l01In _ _ _) ?_|fail)<;>(try simp -implicitDefEqProofs (disch:=first|exact dd|fail)[Try.f14,hlt])))
  all_goals first
   | exact tr_no (fun H=>by have:=H.quota _ (List.getElem_mem hlt);unfold QuotaOK at this;omega)
   | exact ih (all_take_succ hlt he (by unfold QuotaOK;omega))
 have hq:=all_take_len he
 (try simp -implicitDefEqProofs (disch:=first|exact dd|fail)[Try.f14]);(repeat'((with_reducible first|(refine Br.out ?_ ?_<;>intro h<;>(try(have h0:=h;simp only[bH]at h)))|fail)<;>(try simp -implicitDefEqProofs (disch:=first|exact dd|fail)[Try.f14])))
 refine AL_for 57 f.inodes.length (fun i=>∀ q ∈ f.inodes.take i,IsInode q) rfl (by simp) (fun i n hlt he ih => ?_) (fun n he => ?_)
 ·(try simp -implicitDefEqProofs (disch:=first|exact dd|fail)[Try.f14,hlt,cInode]);(repeat'((with_reducible first|(refine Br.out ?_ ?_<;>intro h<;>(try(have h0:=h;simp only[bH]at h)))|refine AC_snd (spec_IsInode _ _ _ f.inodes[i] (hs.inode _ (List.getElem_mem hlt))) ?_|fail)<;>(try simp -implicitDefEqProofs (disch:=first|exact dd|fail)[Try.f14,hlt,cInode])))
  all_goals first
   | exact tr_no (fun H:IsFS f=>tr_not.1 (by assumption) (H.inode _ (List.getElem_mem hlt)))
   | exact ih (all_take_succ hlt he (tr_iff.1 (by assumption)))
 have hin:=all_take_len he
 have hi0:0 < f.inodes.length:=by omega
 (try simp -implicitDefEqProofs (disch:=first|exact dd|fail)[Try.f14,hi0,cInode]);(repeat'((with_reducible first|(refine Br.out ?_ ?_<;>intro h<;>(try(have h0:=h;simp only[bH]at h)))|refine AC_snd (spec_l08Used _ _ _ f hs hin) ?_|fail)<;>(try simp -implicitDefEqProofs (disch:=first|exact dd|fail)[Try.f14,hi0,cInode])))
 all_goals try exact tr_no (fun H:IsFS f=>by have:=H.root _ (List.getElem?_eq_getElem hi0);omega)
 all_goals try exact tr_no (fun H:IsFS f=>tr_not.1 (show tr (UsedOK f.inodes)=false by assumption) ⟨H.own,H.once⟩)
 have hus:UsedOK f.inodes:=tr_iff.1 (by assumption)
 have hl56:(usedL (allB f.inodes)).length=56:=usedL_len
 rw [usedR_yes hus,hl56]
 refine AL_for 81 f.data.length (fun i=>(∀ s ∈ f.data.take i,s.length=32)∧∀ k < i,∀ s,f.data[k]? = some s→(k:Int) ∉ allB f.inodes→zeroStr s=true) rfl ⟨by simp,fun k hk=>absurd hk (Nat.not_lt_zero k)⟩ (fun k n hkt hk kh => ?_) (fun n hk => ?_)
 ·obtain ⟨hk1,hk2⟩:=hk
  have hu:=usedL_get (bs:=allB f.inodes) (show k < 56 by omega)
  generalize usedL (allB f.inodes)=U at *
  have huk:=(List.getElem?_eq_some_iff.1 hu).2
  (try simp -implicitDefEqProofs (disch:=first|exact dd|fail)[Try.f14,hkt,hu,hl56,cb]);(repeat'((with_reducible first|(refine Br.out ?_ ?_<;>intro h<;>(try(have h0:=h;simp only[bH]at h)))|refine AC_snd (spec_IsZeroes _ (by omega)) ?_|fail)<;>(try simp -implicitDefEqProofs (disch:=first|exact dd|fail)[Try.f14,hkt,hu,hl56,cb])))
  all_goals first
   | exact tr_no (fun H:IsFS f=>by have:=H.secs _ (List.getElem_mem hkt);omega)
   | exact tr_no (fun H:IsFS f=>absurd (H.rest k _ (List.getElem?_eq_getElem hkt) (by simp_all)) (by simp [*]))
   |(refine kh ⟨all_take_succ hkt hk1 (by omega),lt_succ_all hk2 (fun s hs' hn => ?_)⟩
     rw [List.getElem?_eq_getElem hkt] at hs'
     cases hs'
     first
      | assumption
      |(have hU:U[k]=true:=(by assumption);rw [hU] at huk;exact absurd (of_decide_eq_true huk.symm) hn))
 obtain ⟨hk1,hrest⟩:=hk
 have hd:=all_take_len hk1
 (try simp -implicitDefEqProofs (disch:=first|exact dd|fail)[Try.f14]);(repeat'((with_reducible first|(refine Br.out ?_ ?_<;>intro h<;>(try(have h0:=h;simp only[bH]at h)))|fail)<;>(try simp -implicitDefEqProofs (disch:=first|exact dd|fail)[Try.f14])))
 refine AL_for 105 f.inodes.length (fun i=>∀ q ∈ f.inodes.take i,TailOK f.data q) rfl (by simp) (fun i n hlt he ih => ?_) (fun n he => ?_)
 ·have hmem:=List.getElem_mem hlt
  have hino:=hin _ hmem
  have hown:=hus.1 _ hmem
  have hb1:=(hs.inode _ hmem).blocks
  have hnx:TailOK f.data f.inodes[i]→_:=fun H=>ih (all_take_succ hlt he H)
  generalize hx:f.inodes[i]=x at *
  rcases Nat.eq_zero_or_pos x.blocks.length with hz | hz
  ·have hi:=hnx (tail_nil hz)
   (try simp -implicitDefEqProofs (disch:=first|exact dd|fail)[Try.f14,hlt,hx,hz,cInode]);(repeat'((with_reducible first|(refine Br.out ?_ ?_<;>intro h<;>(try(have h0:=h;simp only[bH]at h)))|fail)<;>(try simp -implicitDefEqProofs (disch:=first|exact dd|fail)[Try.f14,hlt,hx,hz,cInode])))
   exact hi
  ·obtain ⟨m,hm⟩:∃ m,x.blocks.length=m + 1:=⟨x.blocks.length - 1,by omega⟩
   have hxo:=inode_used hino hz
   have hta:=tail_at (data:=f.data) hm
   have hmt:m < x.blocks.length:=by omega
   by_cases hb:x.blocks[m] = -1
   ·have hi:=hnx (hta.2 (fun e=>absurd hb e))
    (try simp -implicitDefEqProofs (disch:=first|exact dd|fail)[Try.f14,hlt,hx,hm,hmt,hb,cInode]);(repeat'((with_reducible first|(refine Br.out ?_ ?_<;>intro h<;>(try(have h0:=h;simp only[bH]at h)))|fail)<;>(try simp -implicitDefEqProofs (disch:=first|exact dd|fail)[Try.f14,hlt,hx,hm,hmt,hb,cInode])))
    exact hi
   ·have ho:=hown _ (List.getElem_mem hmt) hb
    have hbr:=owner_range ho hxo.uid.1
    have hsz:=hxo.size
    have hbs:=blocks_size hxo hmt
    have hbe:=blocks_end hxo
    obtain ⟨k,hbk⟩:=Int.eq_ofNat_of_zero_le hbr.1
    have hkd:k < f.data.length:=by omega
    have hdl:=hd _ (List.getElem_mem hkd)
    have hgd:f.data.getD k []=f.data[k]:=by simp [hkd]
    simp only [hbk,Int.toNat_natCast,hgd] at hta hb
    have htk:List.take (((f.data[k].length:Nat):Int) - (x.size - (m:Int) * 32)).toNat (List.drop (x.size - (m:Int) * 32).toNat f.data[k])=List.drop (x.size - (m:Int) * 32).toNat f.data[k]:=List.take_of_length_le (by rw [List.length_drop];omega)
    have hb':¬ (k:Int) = -1:=by omega
    (try simp -implicitDefEqProofs (disch:=first|exact dd|fail)[Try.f14,hlt,hx,hm,hmt,hbk,hb',hkd,htk,cInode]);(repeat'((with_reducible first|(refine Br.out ?_ ?_<;>intro h<;>(try(have h0:=h;simp only[bH]at h)))|refine AC_snd (spec_IsZeroes _ (by simp;omega)) ?_|fail)<;>(try simp -implicitDefEqProofs (disch:=first|exact dd|fail)[Try.f14,hlt,hx,hm,hmt,hbk,hb',hkd,htk,cInode])))
    all_goals first
     | exact tr_no (fun H:IsFS f=>absurd (hta.1 (H.tail x hmem) hb) (by simp [*]))
     | exact hnx (hta.2 (fun _=>by assumption))
 ·have hta:=all_take_len he
  (try simp -implicitDefEqProofs (disch:=first|exact dd|fail)[Try.f14]);(repeat'((with_reducible first|(refine Br.out ?_ ?_<;>intro h<;>(try(have h0:=h;simp only[bH]at h)))|fail)<;>(try simp -implicitDefEqProofs (disch:=first|exact dd|fail)[Try.f14])))
  exact tr_yes ⟨by omega,by omega,by omega,by omega,hq,hd,hin,hus.1,hus.2,hta,fun k s hs' hn=>hrest k (List.getElem?_eq_some_iff.1 hs').1 s hs' hn,fun n hn=>by rw [List.getElem?_eq_getElem hi0] at hn;cases hn;assumption⟩
end Go.Proofs.Ytombegncnofnbaa
