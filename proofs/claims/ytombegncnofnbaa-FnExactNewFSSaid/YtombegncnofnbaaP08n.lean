import Derived.Test.YtombegncnofnbaaP08
import Derived.Test.YtombegncnofnbaaPZ
import Derived.Test.YtombegncnofnbaaPRep
import Derived.Test.YtombegncnofnbaaMD
namespace Go.Proofs.Ytombegncnofnbaa
open Go.Fw
set_option linter.unusedVariables false
set_option linter.unusedSimpArgs false
set_option maxHeartbeats 1000000
set_option maxRecDepth 8000
noncomputable def newF (q:List DQuota):DFS:=if isFS (rootF 0 q 493) then rootF 0 q 493 else ⟨0,[],[],[]⟩
theorem rootF_sm {q:List DQuota} (hq:q.length≤1048576):SmF (rootF 0 q 493):=by
 refine ⟨hq,by simp [rootF],fun n hn => ?_,by simp [rootF]⟩
 rcases List.mem_cons.1 hn with h | h
 ·rw [h];exact ⟨by simp [rootN],by simp [rootN],by simp [rootN]⟩
 ·rw [List.eq_of_mem_replicate h];exact ⟨by simp [zeroInode],by simp [zeroInode],by simp [zeroInode]⟩
theorem rootF_in {q:List DQuota}:(rootF 0 q 493).inodes.map cInode = [[.int .i64 2, .int .i64 493, .int .i64 0, .int .i64 0, .int .i64 1, .int .i64 0, .int .i64 0, .row 1 [], .row 3 [], .row 3 []]]++List.replicate 19 [.int .i64 0, .int .i64 0, .int .i64 0, .int .i64 0, .int .i64 0, .int .i64 0, .int .i64 0, .row 1 [], .row 3 [], .row 3 []]:=rfl
theorem impl_NewFS (n1:Option Bool) (q:List DQuota) (hq:q.length≤1048576):Snd Try.prog 7 [.frz 2 n1 (q.map cQuota)] (rFS (newF q)) [.unk]:=Runs.snd (M:=M) (c:=⟨1,[2,3,17],[],[]⟩) tok ks mixed Try.func7 (p := []) (by kernel_rfl) (by rfl) (by rfl) <| by
 have hs:=rootF_sm hq
 have hin:=rootF_in (q:=q)
 have hq3:(rootF 0 q 493).quotas=q:=rfl
 have ht3:(rootF 0 q 493).tick=0:=rfl
 have hd3:(rootF 0 q 493).data.map cs=List.replicate 56 [AV.str zero32]:=rfl
 have hn3:(rootF 0 q 493).inodes.length=20:=rfl
 unfold newF
 obtain ⟨R,hR⟩:∃ R,R=rootF 0 q 493:=⟨_,rfl⟩
 rw [←hR] at hs hin hq3 ht3 hd3 hn3 ⊢
 have ci:=fun a b c=>impl_IsFS a b c R hs
 have cR:=fun a=>slices_RepeatStr a zero32
 simp only [fFS,hq3,ht3,hd3] at ci
 have cQ:=slices_CloneQuota n1 q hq
 have htq:=takeM (f:=cQuota) (rfl:q.length=q.length)
 have hDl:(List.replicate 56 [AV.str zero32]).length=56:=by simp
 generalize List.replicate 56 [AV.str zero32]=D at *
 have htD:List.take 56 D=D:=List.take_of_length_le (by omega)
 have hGl:(R.inodes.map cInode).length=20:=by rw [List.length_map,hn3]
 have hin2:=hin.symm
 simp only [List.replicate,List.cons_append,List.nil_append] at hin2
 generalize hG:R.inodes.map cInode=G at *
 have htG:List.take 20 G=G:=List.take_of_length_le (by omega)
 cases hi:isFS R with
 | true=>
  rw [hi] at ci
  rw [if_pos rfl]
  (try simp -implicitDefEqProofs (maxSteps:=2000000) (disch:=first|exact dd|fail)[Try.f7,htq,hDl,htD,hin2,hGl,htG,hq3,ht3,hd3,hG]);(repeat'((with_reducible first|(refine Br.out ?_ ?_<;>intro h<;>(try(have h0:=h;simp only[bH]at h)))|refine AC_snd (cQ) ?_|refine AC_snd (impl_zeros32) ?_|refine AC_snd (cR _) ?_|refine AC_snd (ci _ _ _) ?_|fail)<;>(try simp -implicitDefEqProofs (maxSteps:=2000000) (disch:=first|exact dd|fail)[Try.f7,htq,hDl,htD,hin2,hGl,htG,hq3,ht3,hd3,hG])))
 | false=>
  rw [hi] at ci
  rw [if_neg (by decide)]
  (try simp -implicitDefEqProofs (maxSteps:=2000000) (disch:=first|exact dd|fail)[Try.f7,htq,hDl,htD,hin2,hGl,htG]);(repeat'((with_reducible first|(refine Br.out ?_ ?_<;>intro h<;>(try(have h0:=h;simp only[bH]at h)))|refine AC_snd (cQ) ?_|refine AC_snd (impl_zeros32) ?_|refine AC_snd (cR _) ?_|refine AC_snd (ci _ _ _) ?_|fail)<;>(try simp -implicitDefEqProofs (maxSteps:=2000000) (disch:=first|exact dd|fail)[Try.f7,htq,hDl,htD,hin2,hGl,htG])))
theorem spec_NewFSq (n1:Option Bool) (q:List DQuota) (hq:q.length≤1048576):Snd Try.prog 5 [.frz 2 n1 (q.map cQuota)] (rFS (newF q)) [.unk]:=Runs.snd (M:=M) (c:=⟨1,[2,3,16,25],[],[]⟩) tok ks mixed Try.func5 (p := []) (by kernel_rfl) (by rfl) (by rfl) <| by
 have hs:=rootF_sm hq
 have hin:=rootF_in (q:=q)
 have hq3:(rootF 0 q 493).quotas=q:=rfl
 have ht3:(rootF 0 q 493).tick=0:=rfl
 have hd3:(rootF 0 q 493).data=List.replicate 56 zero32:=rfl
 have hn3:(rootF 0 q 493).inodes.length=20:=rfl
 unfold newF
 obtain ⟨R,hR⟩:∃ R,R=rootF 0 q 493:=⟨_,rfl⟩
 rw [←hR] at hs hin hq3 ht3 hd3 hn3 ⊢
 have ci:=fun a b c=>spec_IsFS a b c R hs
 simp only [fFS,hq3,ht3,hd3] at ci
 obtain ⟨Q,hQ⟩:∃ Q,Q=rFS (if isFS R=true then R else ⟨0,[],[],[]⟩):=⟨_,rfl⟩
 rw [←hQ]
 have htq:=takeM (f:=cQuota) (rfl:q.length=q.length)
 (try simp -implicitDefEqProofs (maxSteps:=2000000) (disch:=first|exact dd|fail)[Try.f5,htq]);(repeat'((with_reducible first|(refine Br.out ?_ ?_<;>intro h<;>(try(have h0:=h;simp only[bH]at h)))|fail)<;>(try simp -implicitDefEqProofs (maxSteps:=2000000) (disch:=first|exact dd|fail)[Try.f5,htq])))
 refine AL_up (fun (j:Nat)=>56 - j) (fun (j:Nat) => []) (fun (j:Nat)=>(390, .row 10 (R.inodes.map cInode) []) :: if j=0 then [] else [(384, .box [.int .i64 0, .ref 388 none 2 0 q.length (some false), .ref 390 none 10 0 20 (some false), .ref 392 none 1 0 j none]),(392, .row 1 (List.replicate j [AV.str zero32]) [])]) (fun j=>j≤56) 0 (by rw [hin];rfl) (by omega) ?_
 intro j n2 hj ih
 generalize hGi:R.inodes.map cInode=G at *
 rcases Nat.lt_or_ge j 56 with hlt | hge
 ·have hjj:=ih (j + 1) (by omega) (by omega)
  rw [if_neg (by omega),List.replicate_succ'] at hjj
  have hl4:(j:Int) < 56:=by omega
  rcases j with _ | j
  ·(try simp -implicitDefEqProofs (maxSteps:=2000000) (disch:=first|exact dd|fail)[Try.f5]);(repeat'((with_reducible first|(refine Br.out ?_ ?_<;>intro h<;>(try(have h0:=h;simp only[bH]at h)))|refine AC_snd (spec_PadTo0) ?_|fail)<;>(try simp -implicitDefEqProofs (maxSteps:=2000000) (disch:=first|exact dd|fail)[Try.f5])))
   all_goals first | exact hjj
  ·have hlen2:(List.replicate (j + 1) [AV.str zero32]).length=j + 1:=by simp
   generalize List.replicate (j + 1) [AV.str zero32]=D at *
   have hG:List.take (j + 1) D=D:=List.take_of_length_le (by omega)
   have h30:j + 1≤1073741823:=by omega
   have hl5:((j + 1:Nat):Int) < 56:=by omega
   simp only [Nat.add_eq_zero_iff,Nat.one_ne_zero,and_false,if_false]
   (try simp -implicitDefEqProofs (maxSteps:=2000000) (disch:=first|exact dd|fail)[Try.f5,hl4,hl5,hlen2,hG,h30]);(repeat'((with_reducible first|(refine Br.out ?_ ?_<;>intro h<;>(try(have h0:=h;simp only[bH]at h)))|refine AC_snd (spec_PadTo0) ?_|fail)<;>(try simp -implicitDefEqProofs (maxSteps:=2000000) (disch:=first|exact dd|fail)[Try.f5,hl4,hl5,hlen2,hG,h30])))
   all_goals first | exact hjj
 ·have h56:j=56:=by omega
  subst h56
  rw [if_neg (by omega)]
  have hdl:(List.replicate 56 [AV.str zero32]).length=56:=by simp
  have hgl:G.length=20:=by rw [hin];rfl
  have hdD:R.data.map cs=List.replicate 56 [AV.str zero32]:=by rw [hd3,List.map_replicate];rfl
  simp only [List.map_replicate,cs] at ci
  generalize List.replicate 56 [AV.str zero32]=D at *
  have htk:List.take 56 D=D:=List.take_of_length_le (by omega)
  have htg:List.take 20 G=G:=List.take_of_length_le (by omega)
  cases hi:isFS R with
  | true=>
   rw [hi] at ci hQ
   rw [if_pos rfl] at hQ
   simp only [rFS,hdD,hGi,hq3,ht3] at hQ
   (try simp -implicitDefEqProofs (maxSteps:=2000000) (disch:=first|exact dd|fail)[Try.f5,htq,htk,htg,hgl,hdl,hQ]);(repeat'((with_reducible first|(refine Br.out ?_ ?_<;>intro h<;>(try(have h0:=h;simp only[bH]at h)))|refine AC_snd (ci _ _ _) ?_|fail)<;>(try simp -implicitDefEqProofs (maxSteps:=2000000) (disch:=first|exact dd|fail)[Try.f5,htq,htk,htg,hgl,hdl,hQ])))
  | false=>
   rw [hi] at ci hQ
   rw [if_neg (by decide)] at hQ
   simp only [rFS,List.map_nil] at hQ
   (try simp -implicitDefEqProofs (maxSteps:=2000000) (disch:=first|exact dd|fail)[Try.f5,htq,htk,htg,hgl,hdl,hQ]);(repeat'((with_reducible first|(refine Br.out ?_ ?_<;>intro h<;>(try(have h0:=h;simp only[bH]at h)))|refine AC_snd (ci _ _ _) ?_|fail)<;>(try simp -implicitDefEqProofs (maxSteps:=2000000) (disch:=first|exact dd|fail)[Try.f5,htq,htk,htg,hgl,hdl,hQ])))
end Go.Proofs.Ytombegncnofnbaa
