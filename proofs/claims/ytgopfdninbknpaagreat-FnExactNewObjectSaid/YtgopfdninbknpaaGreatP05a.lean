import Derived.Test.YtgopfdninbknpaaGreatDat
import Derived.Test.YtgopfdninbknpaaGreatBase
import Derived.Test.YtgopfdninbknpaaGreatM11
namespace Go.Proofs.YtgopfdninbknpaaGreat
open Go.Fw
set_option linter.unusedVariables false
set_option linter.unusedSimpArgs false
set_option maxHeartbeats 1000000 in
theorem spec_l01In (n a b:Int):Snd Tryz.prog 66 [.int .i64 n, .int .i64 a, .int .i64 b] (.bool (decide (a≤n) && decide (n≤b))) [.unk, .unk, .unk]:=Runs.snd (M:=M) (c:=⟨3,[6],[],[]⟩) tok ks mixed Tryz.func66 (p := []) (by kernel_rfl) (by rfl) (by rfl) <| by
 by_cases h:n ≥ a
 ·have h':a≤n:=h
  simp -implicitDefEqProofs (disch:=first|exact dd|fail)[Tryz.f66,h,h',ABr,AGd]
 ·have h':¬ a≤n:=h
  simp -implicitDefEqProofs (disch:=first|exact dd|fail)[Tryz.f66,h,h',ABr,AGd]
theorem impl_isUser (u:Int):Snd Tryz.prog 116 [.int .i64 u] (.bool (decide (IsUser u))) [.unk]:=Runs.snd (M:=M) (c:=⟨1,[2],[],[]⟩) tok ks mixed Tryz.func116 (p := []) (by kernel_rfl) (by rfl) (by rfl) <| by
 (try simp -implicitDefEqProofs (disch:=first|exact dd|fail)[Tryz.f116]);(repeat'((with_reducible first|(refine Br.out ?_ ?_<;>intro h<;>(try(have h0:=h;simp only[bH]at h)))|fail)<;>(try simp -implicitDefEqProofs (disch:=first|exact dd|fail)[Tryz.f116])))
 all_goals first | omega | (simp [];done) | (simp [];omega) | (rw [Bool.eq_iff_iff];simp [];done) | (rw [Bool.eq_iff_iff];simp [];omega)
theorem spec_l06User (u:Int):Snd Tryz.prog 111 [.int .i64 u] (.bool (decide (IsUser u))) [.unk]:=Runs.snd (M:=M) (c:=⟨1,[2],[],[]⟩) tok ks mixed Tryz.func111 (p := []) (by kernel_rfl) (by rfl) (by rfl) <| by
 (try simp -implicitDefEqProofs (disch:=first|exact dd|fail)[Tryz.f111]);(repeat'((with_reducible first|(refine Br.out ?_ ?_<;>intro h<;>(try(have h0:=h;simp only[bH]at h)))|refine AC_snd (spec_l01In _ _ _) ?_|fail)<;>(try simp -implicitDefEqProofs (disch:=first|exact dd|fail)[Tryz.f111])))
 all_goals first | omega | (simp [];done) | (simp [];omega) | (rw [Bool.eq_iff_iff];simp [];done) | (rw [Bool.eq_iff_iff];simp [];omega)
theorem impl_isMode (u:Int):Snd Tryz.prog 76 [.int .i64 u] (.bool (decide (IsMode u))) [.unk]:=Runs.snd (M:=M) (c:=⟨1,[2],[],[]⟩) tok ks mixed Tryz.func76 (p := []) (by kernel_rfl) (by rfl) (by rfl) <| by
 (try simp -implicitDefEqProofs (disch:=first|exact dd|fail)[Tryz.f76]);(repeat'((with_reducible first|(refine Br.out ?_ ?_<;>intro h<;>(try(have h0:=h;simp only[bH]at h)))|fail)<;>(try simp -implicitDefEqProofs (disch:=first|exact dd|fail)[Tryz.f76])))
 all_goals first | omega | (simp [];done) | (simp [];omega) | (rw [Bool.eq_iff_iff];simp [];done) | (rw [Bool.eq_iff_iff];simp [];omega)
theorem spec_l06Mode (u:Int):Snd Tryz.prog 67 [.int .i64 u] (.bool (decide (IsMode u))) [.unk]:=Runs.snd (M:=M) (c:=⟨1,[2],[],[]⟩) tok ks mixed Tryz.func67 (p := []) (by kernel_rfl) (by rfl) (by rfl) <| by
 (try simp -implicitDefEqProofs (disch:=first|exact dd|fail)[Tryz.f67]);(repeat'((with_reducible first|(refine Br.out ?_ ?_<;>intro h<;>(try(have h0:=h;simp only[bH]at h)))|refine AC_snd (spec_l01In _ _ _) ?_|fail)<;>(try simp -implicitDefEqProofs (disch:=first|exact dd|fail)[Tryz.f67])))
 all_goals first | omega | (simp [];done) | (simp [];omega) | (rw [Bool.eq_iff_iff];simp [];done) | (rw [Bool.eq_iff_iff];simp [];omega)
theorem impl_BlocksNeeded (s:Int) (h:s≤9223372036854775807):Snd Tryz.prog 225 [.int .i64 s] (.int .i64 (blocksNeeded s)) [.unk]:=Runs.snd (M:=M) (c:=⟨1,[2,4],[],[]⟩) tok ks mixed Tryz.func225 (p := []) (by kernel_rfl) (by rfl) (by rfl) <| by
 (try simp -implicitDefEqProofs (disch:=first|exact dd|fail)[Tryz.f225]);(repeat'((with_reducible first|(refine Br.out ?_ ?_<;>intro h<;>(try(have h0:=h;simp only[bH]at h)))|fail)<;>(try simp -implicitDefEqProofs (disch:=first|exact dd|fail)[Tryz.f225])))
 all_goals (unfold blocksNeeded;first | omega | (simp [];done) | (simp [];omega) | (rw [Bool.eq_iff_iff];simp [];done) | (rw [Bool.eq_iff_iff];simp [];omega))
theorem spec_BlocksNeeded (s:Int) (h:s≤9223372036854775807):Snd Tryz.prog 211 [.int .i64 s] (.int .i64 (blocksNeeded s)) [.unk]:=Runs.snd (M:=M) (c:=⟨1,[2,4],[],[]⟩) tok ks mixed Tryz.func211 (p := []) (by kernel_rfl) (by rfl) (by rfl) <| by
 (try simp -implicitDefEqProofs (disch:=first|exact dd|fail)[Tryz.f211]);(repeat'((with_reducible first|(refine Br.out ?_ ?_<;>intro h<;>(try(have h0:=h;simp only[bH]at h)))|fail)<;>(try simp -implicitDefEqProofs (disch:=first|exact dd|fail)[Tryz.f211])))
 all_goals (unfold blocksNeeded;first | omega | (simp [];done) | (simp [];omega) | (rw [Bool.eq_iff_iff];simp [];done) | (rw [Bool.eq_iff_iff];simp [];omega))
theorem impl_BlockOwner (s:Int):Snd Tryz.prog 154 [.int .i64 s] (.int .i64 (ownerOf s)) [.unk]:=Runs.snd (M:=M) (c:=⟨1,[2,8],[],[]⟩) tok ks mixed Tryz.func154 (p := []) (by kernel_rfl) (by rfl) (by rfl) <| by
 (try simp -implicitDefEqProofs (disch:=first|exact dd|fail)[Tryz.f154]);(repeat'((with_reducible first|(refine Br.out ?_ ?_<;>intro h<;>(try(have h0:=h;simp only[bH]at h)))|fail)<;>(try simp -implicitDefEqProofs (disch:=first|exact dd|fail)[Tryz.f154])))
 all_goals (unfold ownerOf;first | omega | (simp [];done) | (simp [];omega) | (rw [Bool.eq_iff_iff];simp [];done) | (rw [Bool.eq_iff_iff];simp [];omega))
theorem spec_BlockOwner (s:Int):Snd Tryz.prog 217 [.int .i64 s] (.int .i64 (ownerOf s)) [.unk]:=Runs.snd (M:=M) (c:=⟨1,[2,5],[],[]⟩) tok ks mixed Tryz.func217 (p := []) (by kernel_rfl) (by rfl) (by rfl) <| by
 (try simp -implicitDefEqProofs (disch:=first|exact dd|fail)[Tryz.f217]);(repeat'((with_reducible first|(refine Br.out ?_ ?_<;>intro h<;>(try(have h0:=h;simp only[bH]at h)))|refine AC_snd (spec_l01In _ _ _) ?_|fail)<;>(try simp -implicitDefEqProofs (disch:=first|exact dd|fail)[Tryz.f217])))
 all_goals (unfold ownerOf;first | omega | (simp [];done) | (simp [];omega) | (rw [Bool.eq_iff_iff];simp [];done) | (rw [Bool.eq_iff_iff];simp [];omega))
theorem cmp_isNaN (s:Int):Snd Tryz.prog 274 [.int .i64 s] (.bool false) [.unk]:=Runs.snd (M:=M) (c:=⟨1,[2],[],[]⟩) tok ks mixed Tryz.func274 (p := []) (by kernel_rfl) (by rfl) (by rfl) <| by
 (try simp -implicitDefEqProofs (disch:=first|exact dd|fail)[Tryz.f274]);(repeat'((with_reducible first|(refine Br.out ?_ ?_<;>intro h<;>(try(have h0:=h;simp only[bH]at h)))|fail)<;>(try simp -implicitDefEqProofs (disch:=first|exact dd|fail)[Tryz.f274])))
def cmpI (a b:Int):Int:=if a < b then -1 else if a > b then 1 else 0
theorem cmp_Compare (a b:Int):Snd Tryz.prog 266 [.int .i64 a, .int .i64 b] (.int .i64 (cmpI a b)) [.unk, .unk]:=Runs.snd (M:=M) (c:=⟨2,[4,5,6,11,12,13,16,19],[],[]⟩) tok ks mixed Tryz.func266 (p := []) (by kernel_rfl) (by rfl) (by rfl) <| by
 (try simp -implicitDefEqProofs (disch:=first|exact dd|fail)[Tryz.f266]);(repeat'((with_reducible first|(refine Br.out ?_ ?_<;>intro h<;>(try(have h0:=h;simp only[bH]at h)))|refine AC_snd (cmp_isNaN _) ?_|fail)<;>(try simp -implicitDefEqProofs (disch:=first|exact dd|fail)[Tryz.f266])))
 all_goals (unfold cmpI;first | omega | (simp [];done) | (simp [];omega) | (rw [Bool.eq_iff_iff];simp [];done) | (rw [Bool.eq_iff_iff];simp [];omega))
end Go.Proofs.YtgopfdninbknpaaGreat
