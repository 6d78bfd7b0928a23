import Derived.Test.YtfkkfhafijgdaaaDat
import Derived.Test.YtfkkfhafijgdaaaBase
import Derived.Test.YtfkkfhafijgdaaaM11
namespace Go.Proofs.Ytfkkfhafijgdaaa
open Go.Fw
set_option linter.unusedVariables false
set_option linter.unusedSimpArgs false
set_option maxHeartbeats 1000000 in
theorem spec_l01In (n a b:Int):Snd Try.prog 166 [.int .i64 n, .int .i64 a, .int .i64 b] (.bool (decide (a≤n) && decide (n≤b))) [.unk, .unk, .unk]:=Runs.snd (M:=M) (c:=⟨3,[6],[],[]⟩) tok ks mixed Try.func166 (p := []) (by kernel_rfl) (by rfl) (by rfl) <| by
 by_cases h:n ≥ a
 ·have h':a≤n:=h
  simp -implicitDefEqProofs (disch:=first|exact dd|fail)[Try.f166,h,h',ABr,AGd]
 ·have h':¬ a≤n:=h
  simp -implicitDefEqProofs (disch:=first|exact dd|fail)[Try.f166,h,h',ABr,AGd]
theorem impl_isUser (u:Int):Snd Try.prog 115 [.int .i64 u] (.bool (decide (IsUser u))) [.unk]:=Runs.snd (M:=M) (c:=⟨1,[2],[],[]⟩) tok ks mixed Try.func115 (p := []) (by kernel_rfl) (by rfl) (by rfl) <| by
 (try simp -implicitDefEqProofs (disch:=first|exact dd|fail)[Try.f115]);(repeat'((with_reducible first|(refine Br.out ?_ ?_<;>intro h<;>(try(have h0:=h;simp only[bH]at h)))|fail)<;>(try simp -implicitDefEqProofs (disch:=first|exact dd|fail)[Try.f115])))
 all_goals first | omega | (simp [];done) | (simp [];omega) | (rw [Bool.eq_iff_iff];simp [];done) | (rw [Bool.eq_iff_iff];simp [];omega)
theorem spec_l06User (u:Int):Snd Try.prog 182 [.int .i64 u] (.bool (decide (IsUser u))) [.unk]:=Runs.snd (M:=M) (c:=⟨1,[2],[],[]⟩) tok ks mixed Try.func182 (p := []) (by kernel_rfl) (by rfl) (by rfl) <| by
 (try simp -implicitDefEqProofs (disch:=first|exact dd|fail)[Try.f182]);(repeat'((with_reducible first|(refine Br.out ?_ ?_<;>intro h<;>(try(have h0:=h;simp only[bH]at h)))|refine AC_snd (spec_l01In _ _ _) ?_|fail)<;>(try simp -implicitDefEqProofs (disch:=first|exact dd|fail)[Try.f182])))
 all_goals first | omega | (simp [];done) | (simp [];omega) | (rw [Bool.eq_iff_iff];simp [];done) | (rw [Bool.eq_iff_iff];simp [];omega)
theorem impl_isMode (u:Int):Snd Try.prog 123 [.int .i64 u] (.bool (decide (IsMode u))) [.unk]:=Runs.snd (M:=M) (c:=⟨1,[2],[],[]⟩) tok ks mixed Try.func123 (p := []) (by kernel_rfl) (by rfl) (by rfl) <| by
 (try simp -implicitDefEqProofs (disch:=first|exact dd|fail)[Try.f123]);(repeat'((with_reducible first|(refine Br.out ?_ ?_<;>intro h<;>(try(have h0:=h;simp only[bH]at h)))|fail)<;>(try simp -implicitDefEqProofs (disch:=first|exact dd|fail)[Try.f123])))
 all_goals first | omega | (simp [];done) | (simp [];omega) | (rw [Bool.eq_iff_iff];simp [];done) | (rw [Bool.eq_iff_iff];simp [];omega)
theorem spec_l06Mode (u:Int):Snd Try.prog 181 [.int .i64 u] (.bool (decide (IsMode u))) [.unk]:=Runs.snd (M:=M) (c:=⟨1,[2],[],[]⟩) tok ks mixed Try.func181 (p := []) (by kernel_rfl) (by rfl) (by rfl) <| by
 (try simp -implicitDefEqProofs (disch:=first|exact dd|fail)[Try.f181]);(repeat'((with_reducible first|(refine Br.out ?_ ?_<;>intro h<;>(try(have h0:=h;simp only[bH]at h)))|refine AC_snd (spec_l01In _ _ _) ?_|fail)<;>(try simp -implicitDefEqProofs (disch:=first|exact dd|fail)[Try.f181])))
 all_goals first | omega | (simp [];done) | (simp [];omega) | (rw [Bool.eq_iff_iff];simp [];done) | (rw [Bool.eq_iff_iff];simp [];omega)
theorem impl_BlocksNeeded (s:Int) (h:s≤9223372036854775807):Snd Try.prog 124 [.int .i64 s] (.int .i64 (blocksNeeded s)) [.unk]:=Runs.snd (M:=M) (c:=⟨1,[2,4],[],[]⟩) tok ks mixed Try.func124 (p := []) (by kernel_rfl) (by rfl) (by rfl) <| by
 (try simp -implicitDefEqProofs (disch:=first|exact dd|fail)[Try.f124]);(repeat'((with_reducible first|(refine Br.out ?_ ?_<;>intro h<;>(try(have h0:=h;simp only[bH]at h)))|fail)<;>(try simp -implicitDefEqProofs (disch:=first|exact dd|fail)[Try.f124])))
 all_goals (unfold blocksNeeded;first | omega | (simp [];done) | (simp [];omega) | (rw [Bool.eq_iff_iff];simp [];done) | (rw [Bool.eq_iff_iff];simp [];omega))
theorem spec_BlocksNeeded (s:Int) (h:s≤9223372036854775807):Snd Try.prog 151 [.int .i64 s] (.int .i64 (blocksNeeded s)) [.unk]:=Runs.snd (M:=M) (c:=⟨1,[2,4],[],[]⟩) tok ks mixed Try.func151 (p := []) (by kernel_rfl) (by rfl) (by rfl) <| by
 (try simp -implicitDefEqProofs (disch:=first|exact dd|fail)[Try.f151]);(repeat'((with_reducible first|(refine Br.out ?_ ?_<;>intro h<;>(try(have h0:=h;simp only[bH]at h)))|fail)<;>(try simp -implicitDefEqProofs (disch:=first|exact dd|fail)[Try.f151])))
 all_goals (unfold blocksNeeded;first | omega | (simp [];done) | (simp [];omega) | (rw [Bool.eq_iff_iff];simp [];done) | (rw [Bool.eq_iff_iff];simp [];omega))
theorem impl_BlockOwner (s:Int):Snd Try.prog 21 [.int .i64 s] (.int .i64 (ownerOf s)) [.unk]:=Runs.snd (M:=M) (c:=⟨1,[2,8],[],[]⟩) tok ks mixed Try.func21 (p := []) (by kernel_rfl) (by rfl) (by rfl) <| by
 (try simp -implicitDefEqProofs (disch:=first|exact dd|fail)[Try.f21]);(repeat'((with_reducible first|(refine Br.out ?_ ?_<;>intro h<;>(try(have h0:=h;simp only[bH]at h)))|fail)<;>(try simp -implicitDefEqProofs (disch:=first|exact dd|fail)[Try.f21])))
 all_goals (unfold ownerOf;first | omega | (simp [];done) | (simp [];omega) | (rw [Bool.eq_iff_iff];simp [];done) | (rw [Bool.eq_iff_iff];simp [];omega))
theorem spec_BlockOwner (s:Int):Snd Try.prog 185 [.int .i64 s] (.int .i64 (ownerOf s)) [.unk]:=Runs.snd (M:=M) (c:=⟨1,[2,5],[],[]⟩) tok ks mixed Try.func185 (p := []) (by kernel_rfl) (by rfl) (by rfl) <| by
 (try simp -implicitDefEqProofs (disch:=first|exact dd|fail)[Try.f185]);(repeat'((with_reducible first|(refine Br.out ?_ ?_<;>intro h<;>(try(have h0:=h;simp only[bH]at h)))|refine AC_snd (spec_l01In _ _ _) ?_|fail)<;>(try simp -implicitDefEqProofs (disch:=first|exact dd|fail)[Try.f185])))
 all_goals (unfold ownerOf;first | omega | (simp [];done) | (simp [];omega) | (rw [Bool.eq_iff_iff];simp [];done) | (rw [Bool.eq_iff_iff];simp [];omega))
theorem cmp_isNaN (s:Int):Snd Try.prog 175 [.int .i64 s] (.bool false) [.unk]:=Runs.snd (M:=M) (c:=⟨1,[2],[],[]⟩) tok ks mixed Try.func175 (p := []) (by kernel_rfl) (by rfl) (by rfl) <| by
 (try simp -implicitDefEqProofs (disch:=first|exact dd|fail)[Try.f175]);(repeat'((with_reducible first|(refine Br.out ?_ ?_<;>intro h<;>(try(have h0:=h;simp only[bH]at h)))|fail)<;>(try simp -implicitDefEqProofs (disch:=first|exact dd|fail)[Try.f175])))
def cmpI (a b:Int):Int:=if a < b then -1 else if a > b then 1 else 0
theorem cmp_Compare (a b:Int):Snd Try.prog 157 [.int .i64 a, .int .i64 b] (.int .i64 (cmpI a b)) [.unk, .unk]:=Runs.snd (M:=M) (c:=⟨2,[4,5,6,11,12,13,16,19],[],[]⟩) tok ks mixed Try.func157 (p := []) (by kernel_rfl) (by rfl) (by rfl) <| by
 (try simp -implicitDefEqProofs (disch:=first|exact dd|fail)[Try.f157]);(repeat'((with_reducible first|(refine Br.out ?_ ?_<;>intro h<;>(try(have h0:=h;simp only[bH]at h)))|refine AC_snd (cmp_isNaN _) ?_|fail)<;>(try simp -implicitDefEqProofs (disch:=first|exact dd|fail)[Try.f157])))
 all_goals (unfold cmpI;first | omega | (simp [];done) | (simp [];omega) | (rw [Bool.eq_iff_iff];simp [];done) | (rw [Bool.eq_iff_iff];simp [];omega))
end Go.Proofs.Ytfkkfhafijgdaaa
