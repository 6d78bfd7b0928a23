import Derived.Test.YtfkkfhafijgdaaaDat
import Derived.Test.YtfkkfhafijgdaaaBase
import Derived.Test.YtfkkfhafijgdaaaMA
import Derived.Test.YtfkkfhafijgdaaaBx
import Derived.Test.YtfkkfhafijgdaaaM11
namespace Go.Proofs.Ytfkkfhafijgdaaa
open Go.Fw
set_option linter.unusedVariables false
set_option linter.unusedSimpArgs false
theorem b2l_zero:∀ c:Nat,bytesToList (List.replicate c [AV.int .u8 0])=some (List.replicate c 0)
 | 0=>rfl
 | c + 1=>by
  rw [List.replicate_succ,List.replicate_succ]
  unfold bytesToList
  rw [b2l_zero c]
  rfl
theorem impl_zeros (c:Nat) (hc:c≤1048576):Snd Try.prog 122 [.int .i64 c] (.str (List.replicate c 0)) [.unk]:=Runs.snd (M:=M) (c:=⟨1,[2],[],[]⟩) tok ks mixed Try.func122 (p := []) (by kernel_rfl) (by rfl) (by rfl) <| by
 have hb:=b2l_zero c
 (try simp -implicitDefEqProofs (disch:=first|exact dd|fail)[Try.f122,hb]);(repeat'((with_reducible first|(refine Br.out ?_ ?_<;>intro h<;>(try(have h0:=h;simp only[bH]at h)))|fail)<;>(try simp -implicitDefEqProofs (disch:=first|exact dd|fail)[Try.f122,hb])))
theorem impl_zeros32:Snd Try.prog 122 [.int .i64 32] (.str zero32) [.unk]:=impl_zeros 32 (by decide)
theorem spec_PadTo0:Snd Try.prog 144 [.str [], .int .i64 32] (.str zero32) [.unk, .unk]:=Runs.snd (M:=M) (c:=⟨2,[4,5,7,13],[],[]⟩) tok ks mixed Try.func144 (p := []) (by kernel_rfl) (by rfl) (by rfl) <| by
 (try simp -implicitDefEqProofs (disch:=first|exact dd|fail)[Try.f144]);(repeat'((with_reducible first|(refine Br.out ?_ ?_<;>intro h<;>(try(have h0:=h;simp only[bH]at h)))|fail)<;>(try simp -implicitDefEqProofs (disch:=first|exact dd|fail)[Try.f144])))
 refine AL_up (fun i=>33 - i) (fun i => [(5, .ref 640 none 1 0 i (some false))]) (fun i => [(640, .row 1 (List.replicate i [.int .u8 0]) [])]) (fun i=>i≤32) 0 rfl (by omega) ?_
 intro i n hi ih
 rcases Nat.lt_or_ge i 32 with hlt | hge
 ·have hj:=ih (i + 1) (by omega) (by omega)
  rw [List.replicate_succ'] at hj
  (try simp -implicitDefEqProofs (disch:=first|exact dd|fail)[Try.f144]);(repeat'((with_reducible first|(refine Br.out ?_ ?_<;>intro h<;>(try(have h0:=h;simp only[bH]at h)))|fail)<;>(try simp -implicitDefEqProofs (disch:=first|exact dd|fail)[Try.f144])))
  all_goals first | exact hj
 ·obtain rfl:i=32:=by omega
  have hb:=b2l_zero 32
  (try simp -implicitDefEqProofs (disch:=first|exact dd|fail)[Try.f144,hb]);(repeat'((with_reducible first|(refine Br.out ?_ ?_<;>intro h<;>(try(have h0:=h;simp only[bH]at h)))|fail)<;>(try simp -implicitDefEqProofs (disch:=first|exact dd|fail)[Try.f144,hb])))
  all_goals first | rfl
end Go.Proofs.Ytfkkfhafijgdaaa
