import Derived.Test.YtombegncnofnbaaDat
import Derived.Test.YtombegncnofnbaaBase
import Derived.Test.YtombegncnofnbaaBx
namespace Go.Proofs.Ytombegncnofnbaa
open Go.Fw
set_option linter.unusedVariables false
set_option linter.unusedSimpArgs false
set_option maxHeartbeats 1000000
set_option maxRecDepth 8000
theorem bits_Mul64:Snd Try.prog 50 [.int .u64 1, .int .u64 56] (.tup [.int .u64 0, .int .u64 56]) [.unk, .unk]:=Runs.snd (M:=M) (c:=⟨2,[4,5,6,7,8,9,10,11,12,13],[],[]⟩) tok ks mixed Try.func50 (p := []) (by kernel_rfl) (by rfl) (by rfl) <| by
 (try simp -implicitDefEqProofs (disch:=first|exact dd|fail)[Try.f50]);(repeat'((with_reducible first|(refine Br.out ?_ ?_<;>intro h<;>(try(have h0:=h;simp only[bH]at h)))|fail)<;>(try simp -implicitDefEqProofs (disch:=first|exact dd|fail)[Try.f50])))
 all_goals decide +kernel
theorem bits_Mul:Snd Try.prog 32 [.int .u64 1, .int .u64 56] (.tup [.int .u64 0, .int .u64 56]) [.unk, .unk]:=Runs.snd (M:=M) (c:=⟨2,[4,5,6,7,8,9],[],[]⟩) tok ks mixed Try.func32 (p := []) (by kernel_rfl) (by rfl) (by rfl) <| by
 (try simp -implicitDefEqProofs (disch:=first|exact dd|fail)[Try.f32]);(repeat'((with_reducible first|(refine Br.out ?_ ?_<;>intro h<;>(try(have h0:=h;simp only[bH]at h)))|refine AC_snd (bits_Mul64) ?_|fail)<;>(try simp -implicitDefEqProofs (disch:=first|exact dd|fail)[Try.f32])))
theorem slices_RepeatStr (n1:Option Bool) (z:Str):Snd Try.prog 17 [.frz 1 n1 [[.str z]], .int .i64 56] (.row 1 (List.replicate 56 [AV.str z])) [.unk, .unk]:=Runs.snd (M:=M) (c:=⟨2,[4,5,6,7,8,10,26,37],[],[]⟩) tok ks mixed Try.func17 (p := []) (by kernel_rfl) (by rfl) (by rfl) <| by
 obtain ⟨R,hR⟩:∃ R,R=List.replicate 56 [AV.str z]:=⟨_,rfl⟩
 rw [←hR]
 have w1:IntKind.u64.wrap 1=1:=by decide
 have w2:IntKind.u64.wrap 56=56:=by decide
 have w3:IntKind.i64.wrap 56=56:=by decide
 have hF:Flat [[AV.str z]]:=by
  intro c hc a ha
  simp only [List.mem_singleton] at hc
  rw [hc,List.mem_singleton] at ha
  rw [ha]
  rfl
 (try simp -implicitDefEqProofs (disch:=first|exact dd|fail)[Try.f17,w1,w2,w3,hF]);(repeat'((with_reducible first|(refine Br.out ?_ ?_<;>intro h<;>(try(have h0:=h;simp only[bH]at h)))|refine AC_snd (bits_Mul) ?_|fail)<;>(try simp -implicitDefEqProofs (disch:=first|exact dd|fail)[Try.f17,w1,w2,w3,hF])))
 refine AL_up (fun (n:Nat)=>56 - n) (fun (n:Nat) => [(8, .int .i64 n)]) (fun (n:Nat) => [(896, .row 1 (List.replicate n [AV.str z]++List.replicate (56 - n) [AV.str []]) [])]) (fun n=>1≤n∧n≤56) 1 rfl ⟨by omega,by omega⟩ ?_
 rintro n n2 ⟨h1,h2⟩ ih
 have hA:(List.replicate n [AV.str z]).length=n:=by simp
 have hB:(List.replicate (56 - n) [AV.str []]).length=56 - n:=by simp
 rcases Nat.lt_or_ge n 56 with hlt | hge
 ·obtain ⟨k,hk⟩:∃ k,k=min n (56 - n):=⟨_,rfl⟩
  have hjj:=ih (n + k) ⟨by omega,by omega⟩ (by omega)
  have e1:List.replicate (n + k) [AV.str z]++List.replicate (56 - (n + k)) [AV.str []]=List.replicate n [AV.str z]++(List.replicate (min (56 - n) n) [AV.str z]++List.drop (n + k) (List.replicate n [AV.str z]++List.replicate (56 - n) [AV.str []])):=by
   rw [List.drop_append,List.drop_of_length_le (by simp),List.nil_append,List.length_replicate,List.drop_replicate,←List.append_assoc,List.replicate_append_replicate]
   congr 2<;>omega
  rw [e1] at hjj
  have hl4:(n:Int) < 56:=by omega
  have hF2:Flat (List.replicate n [AV.str z]):=by
   intro c hc a ha
   rw [List.eq_of_mem_replicate hc,List.mem_singleton] at ha
   rw [ha]
   rfl
  have hmin:min n (56 - n)=k:=hk.symm
  (try simp -implicitDefEqProofs (disch:=first|exact dd|fail)[Try.f17,hl4,hA,hB,hlt,h2,hmin,hF2]);(repeat'((with_reducible first|(refine Br.out ?_ ?_<;>intro h<;>(try(have h0:=h;simp only[bH]at h)))|fail)<;>(try simp -implicitDefEqProofs (disch:=first|exact dd|fail)[Try.f17,hl4,hA,hB,hlt,h2,hmin,hF2])))
  all_goals first | exact hjj
 ·have h56:n=56:=by omega
  subst h56
  rw [←hR]
  have hRl:R.length=56:=by rw [hR];simp
  have htk:List.take 56 R=R:=List.take_of_length_le (by omega)
  have he:List.replicate (56 - 56) [AV.str []] = []:=rfl
  rw [he,List.append_nil]
  (try simp -implicitDefEqProofs (disch:=first|exact dd|fail)[Try.f17,hRl,htk]);(repeat'((with_reducible first|(refine Br.out ?_ ?_<;>intro h<;>(try(have h0:=h;simp only[bH]at h)))|fail)<;>(try simp -implicitDefEqProofs (disch:=first|exact dd|fail)[Try.f17,hRl,htk])))
end Go.Proofs.Ytombegncnofnbaa
