import Derived.Test.YtombegncnofnbaaDat
import Derived.Test.YtombegncnofnbaaBase
import Derived.Test.YtombegncnofnbaaMA
import Derived.Test.YtombegncnofnbaaBx
import Derived.Test.YtombegncnofnbaaM11
namespace Go.Proofs.Ytombegncnofnbaa
open Go.Fw
set_option linter.unusedVariables false
set_option linter.unusedSimpArgs false
theorem b2l_zero:∀ c:Nat,bytesToList (List.replicate c [AV.int .u8 0])=some (List.replicate c 0)
 | 0=>rfl
 | c + 1=>by
  rw [List.replicate_succ,List.replicate_succ]
  unfold bytesToList
  rw [b2l_zero c]
  rfl
theorem impl_zeros (c:Nat) (hc:c≤1048576):Snd Try.prog 18 [.int .i64 c] (.str (List.replicate c 0)) [.unk]:=Runs.snd (M:=M) (c:=⟨1,[2],[],[]⟩) tok ks mixed Try.func18 (p := []) (by kernel_rfl) (by rfl) (by rfl) <| by
 have hb:=b2l_zero c
 (try simp -implicitDefEqProofs (disch:=first|exact dd|fail)[Try.f18,hb]);(repeat'((with_reducible first|(refine Br.out ?_ ?_<;>intro h<;>(try(have h0:=h;simp only[bH]at h)))|fail)<;>(try simp -implicitDefEqProofs (disch:=first|exact dd|fail)[Try.f18,hb])))
theorem impl_zeros32:Snd Try.prog 18 [.int .i64 32] (.str zero32) [.unk]:=impl_zeros 32 (by decide)
theorem spec_PadTo0:Snd Try.prog 13 [.str [], .int .i64 32] (.str zero32) [.unk, .unk]:=Runs.snd (M:=M) (c:=⟨2,[4,5,7,13],[],[]⟩) tok ks mixed Try.func13 (p := []) (by kernel_rfl) (by rfl) (by rfl) <| by
 (try simp -implicitDefEqProofs (disch:=first|exact dd|fail)[Try.f13]);(repeat'((with_reducible first|(refine Br.out ?_ ?_<;>intro h<;>(try(have h0:=h;simp only[bH]at h)))|fail)<;>(try simp -implicitDefEqProofs (disch:=first|exact dd|fail)[Try.f13])))
 refine AL_up (fun i=>33 - i) (fun i => [(5, .ref 640 none 1 0 i (some false))]) (fun i => [(640, .row 1 (List.replicate i [.int .u8 0]) [])]) (fun i=>i≤32) 0 rfl (by omega) ?_
 intro i n hi ih
 rcases Nat.lt_or_ge i 32 with hlt | hge
 ·have hj:=ih (i + 1) (by omega) (by omega)
  rw [List.replicate_succ'] at hj
  (try simp -implicitDefEqProofs (disch:=first|exact dd|fail)[Try.f13]);(repeat'((with_reducible first|(refine Br.out ?_ ?_<;>intro h<;>(try(have h0:=h;simp only[bH]at h)))|fail)<;>(try simp -implicitDefEqProofs (disch:=first|exact dd|fail)[Try.f13])))
  all_goals first | exact hj
 ·obtain rfl:i=32:=by omega
  have hb:=b2l_zero 32
  (try simp -implicitDefEqProofs (disch:=first|exact dd|fail)[Try.f13,hb]);(repeat'((with_reducible first|(refine Br.out ?_ ?_<;>intro h<;>(try(have h0:=h;simp only[bH]at h)))|fail)<;>(try simp -implicitDefEqProofs (disch:=first|exact dd|fail)[Try.f13,hb])))
  all_goals first | rfl
set_option maxHeartbeats 1000000
set_option maxRecDepth 8000
theorem padTo_step {s:Str} {i:Nat} (h:s.length≤i):padTo s (i + 1)=padTo s i ++ [0]:=by
 rw [padTo,padTo,Nat.succ_sub h,List.replicate_succ',List.append_assoc]
theorem spec_PadTo (s:Str) (k:Nat) (hk:k≤100000) (hl:s.length≤1048576):Snd Try.prog 13 [.str s, .int .i64 k] (.str (padTo s k)) [.unk, .unk]:=Runs.snd (M:=M) (c:=⟨2,[4,5,7,13],[],[]⟩) tok ks mixed Try.func13 (p := []) (by kernel_rfl) (by rfl) (by rfl) <| by
 have h1:¬ (100000:Int) < k:=by omega
 have h0:padTo s s.length=s:=by simp [padTo]
 (try simp -implicitDefEqProofs (disch:=first|exact dd|fail)[Try.f13,l2b,h1]);(repeat'((with_reducible first|(refine Br.out ?_ ?_<;>intro h<;>(try(have h0:=h;simp only[bH]at h)))|fail)<;>(try simp -implicitDefEqProofs (disch:=first|exact dd|fail)[Try.f13,l2b,h1])))
 refine AL_up (fun (i:Nat)=>k - i) (fun (i:Nat) => [(5, .ref 640 none 1 0 i (some false))]) (fun (i:Nat) => [(640, .row 1 ((padTo s i).map cu) [])]) (fun i=>s.length≤i∧(i≤k∨i=s.length)) s.length (by rw [h0];rfl) ⟨Nat.le_refl _, .inr rfl⟩ ?_
 rintro i n ⟨hi0,hi1⟩ ih
 have hpl:(padTo s i).length=i:=by rw [padTo_len];omega
 rcases Nat.lt_or_ge i k with hlt | hge
 ·have hj:=ih (i + 1) ⟨by omega,by omega⟩ (by omega)
  rw [padTo_step hi0] at hj
  simp only [List.map_append,List.map_cons,List.map_nil,cu] at hj
  have ht:=takeM (f:=cu) hpl
  generalize padTo s i=P at *
  (try simp -implicitDefEqProofs (disch:=first|exact dd|fail)[Try.f13,hlt,hpl,ht]);(repeat'((with_reducible first|(refine Br.out ?_ ?_<;>intro h<;>(try(have h0:=h;simp only[bH]at h)))|fail)<;>(try simp -implicitDefEqProofs (disch:=first|exact dd|fail)[Try.f13,hlt,hpl,ht])))
  all_goals first | exact hj
 ·have hp:padTo s i=padTo s k:=by
   rcases hi1 with h | h
   ·rw [show i=k by omega]
   ·rw [h,h0,padTo,Nat.sub_eq_zero_of_le (by omega)]
    simp
  have hb:=b2l (padTo s k)
  rw [hp] at hpl ⊢
  have ht:=takeM (f:=cu) hpl
  generalize padTo s k=P at *
  (try simp -implicitDefEqProofs (disch:=first|exact dd|fail)[Try.f13,hpl,ht,hb]);(repeat'((with_reducible first|(refine Br.out ?_ ?_<;>intro h<;>(try(have h0:=h;simp only[bH]at h)))|fail)<;>(try simp -implicitDefEqProofs (disch:=first|exact dd|fail)[Try.f13,hpl,ht,hb])))
end Go.Proofs.Ytombegncnofnbaa
