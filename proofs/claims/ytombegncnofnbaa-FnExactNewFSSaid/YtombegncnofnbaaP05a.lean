import Derived.Test.YtombegncnofnbaaDat
import Derived.Test.YtombegncnofnbaaBase
import Derived.Test.YtombegncnofnbaaM11
namespace Go.Proofs.Ytombegncnofnbaa
open Go.Fw
set_option linter.unusedVariables false
set_option linter.unusedSimpArgs false
set_option maxHeartbeats 1000000 in
theorem spec_l01In (n a b:Int):Snd Try.prog 28 [.int .i64 n, .int .i64 a, .int .i64 b] (.bool (decide (a≤n) && decide (n≤b))) [.unk, .unk, .unk]:=Runs.snd (M:=M) (c:=⟨3,[6],[],[]⟩) tok ks mixed Try.func28 (p := []) (by kernel_rfl) (by rfl) (by rfl) <| by
 by_cases h:n ≥ a
 ·have h':a≤n:=h
  simp -implicitDefEqProofs (disch:=first|exact dd|fail)[Try.f28,h,h',ABr,AGd]
 ·have h':¬ a≤n:=h
  simp -implicitDefEqProofs (disch:=first|exact dd|fail)[Try.f28,h,h',ABr,AGd]
theorem impl_isUser (u:Int):Snd Try.prog 53 [.int .i64 u] (.bool (decide (IsUser u))) [.unk]:=Runs.snd (M:=M) (c:=⟨1,[2],[],[]⟩) tok ks mixed Try.func53 (p := []) (by kernel_rfl) (by rfl) (by rfl) <| by
 (try simp -implicitDefEqProofs (disch:=first|exact dd|fail)[Try.f53]);(repeat'((with_reducible first|(refine Br.out ?_ ?_<;>intro h<;>(try(have h0:=h;simp only[bH]at h)))|fail)<;>(try simp -implicitDefEqProofs (disch:=first|exact dd|fail)[Try.f53])))
 all_goals first | omega | (simp [];done) | (simp [];omega) | (rw [Bool.eq_iff_iff];simp [];done) | (rw [Bool.eq_iff_iff];simp [];omega)
theorem spec_l06User (u:Int):Snd Try.prog 44 [.int .i64 u] (.bool (decide (IsUser u))) [.unk]:=Runs.snd (M:=M) (c:=⟨1,[2],[],[]⟩) tok ks mixed Try.func44 (p := []) (by kernel_rfl) (by rfl) (by rfl) <| by
 (try simp -implicitDefEqProofs (disch:=first|exact dd|fail)[Try.f44]);(repeat'((with_reducible first|(refine Br.out ?_ ?_<;>intro h<;>(try(have h0:=h;simp only[bH]at h)))|refine AC_snd (spec_l01In _ _ _) ?_|fail)<;>(try simp -implicitDefEqProofs (disch:=first|exact dd|fail)[Try.f44])))
 all_goals first | omega | (simp [];done) | (simp [];omega) | (rw [Bool.eq_iff_iff];simp [];done) | (rw [Bool.eq_iff_iff];simp [];omega)
theorem impl_isMode (u:Int):Snd Try.prog 52 [.int .i64 u] (.bool (decide (IsMode u))) [.unk]:=Runs.snd (M:=M) (c:=⟨1,[2],[],[]⟩) tok ks mixed Try.func52 (p := []) (by kernel_rfl) (by rfl) (by rfl) <| by
 (try simp -implicitDefEqProofs (disch:=first|exact dd|fail)[Try.f52]);(repeat'((with_reducible first|(refine Br.out ?_ ?_<;>intro h<;>(try(have h0:=h;simp only[bH]at h)))|fail)<;>(try simp -implicitDefEqProofs (disch:=first|exact dd|fail)[Try.f52])))
 all_goals first | omega | (simp [];done) | (simp [];omega) | (rw [Bool.eq_iff_iff];simp [];done) | (rw [Bool.eq_iff_iff];simp [];omega)
theorem spec_l06Mode (u:Int):Snd Try.prog 43 [.int .i64 u] (.bool (decide (IsMode u))) [.unk]:=Runs.snd (M:=M) (c:=⟨1,[2],[],[]⟩) tok ks mixed Try.func43 (p := []) (by kernel_rfl) (by rfl) (by rfl) <| by
 (try simp -implicitDefEqProofs (disch:=first|exact dd|fail)[Try.f43]);(repeat'((with_reducible first|(refine Br.out ?_ ?_<;>intro h<;>(try(have h0:=h;simp only[bH]at h)))|refine AC_snd (spec_l01In _ _ _) ?_|fail)<;>(try simp -implicitDefEqProofs (disch:=first|exact dd|fail)[Try.f43])))
 all_goals first | omega | (simp [];done) | (simp [];omega) | (rw [Bool.eq_iff_iff];simp [];done) | (rw [Bool.eq_iff_iff];simp [];omega)
theorem impl_BlocksNeeded (s:Int) (h:s≤9223372036854775807):Snd Try.prog 54 [.int .i64 s] (.int .i64 (blocksNeeded s)) [.unk]:=Runs.snd (M:=M) (c:=⟨1,[2,4],[],[]⟩) tok ks mixed Try.func54 (p := []) (by kernel_rfl) (by rfl) (by rfl) <| by
 (try simp -implicitDefEqProofs (disch:=first|exact dd|fail)[Try.f54]);(repeat'((with_reducible first|(refine Br.out ?_ ?_<;>intro h<;>(try(have h0:=h;simp only[bH]at h)))|fail)<;>(try simp -implicitDefEqProofs (disch:=first|exact dd|fail)[Try.f54])))
 all_goals (unfold blocksNeeded;first | omega | (simp [];done) | (simp [];omega) | (rw [Bool.eq_iff_iff];simp [];done) | (rw [Bool.eq_iff_iff];simp [];omega))
theorem spec_BlocksNeeded (s:Int) (h:s≤9223372036854775807):Snd Try.prog 45 [.int .i64 s] (.int .i64 (blocksNeeded s)) [.unk]:=Runs.snd (M:=M) (c:=⟨1,[2,4],[],[]⟩) tok ks mixed Try.func45 (p := []) (by kernel_rfl) (by rfl) (by rfl) <| by
 (try simp -implicitDefEqProofs (disch:=first|exact dd|fail)[Try.f45]);(repeat'((with_reducible first|(refine Br.out ?_ ?_<;>intro h<;>(try(have h0:=h;simp only[bH]at h)))|fail)<;>(try simp -implicitDefEqProofs (disch:=first|exact dd|fail)[Try.f45])))
 all_goals (unfold blocksNeeded;first | omega | (simp [];done) | (simp [];omega) | (rw [Bool.eq_iff_iff];simp [];done) | (rw [Bool.eq_iff_iff];simp [];omega))
theorem impl_BlockOwner (s:Int):Snd Try.prog 34 [.int .i64 s] (.int .i64 (ownerOf s)) [.unk]:=Runs.snd (M:=M) (c:=⟨1,[2,8],[],[]⟩) tok ks mixed Try.func34 (p := []) (by kernel_rfl) (by rfl) (by rfl) <| by
 (try simp -implicitDefEqProofs (disch:=first|exact dd|fail)[Try.f34]);(repeat'((with_reducible first|(refine Br.out ?_ ?_<;>intro h<;>(try(have h0:=h;simp only[bH]at h)))|fail)<;>(try simp -implicitDefEqProofs (disch:=first|exact dd|fail)[Try.f34])))
 all_goals (unfold ownerOf;first | omega | (simp [];done) | (simp [];omega) | (rw [Bool.eq_iff_iff];simp [];done) | (rw [Bool.eq_iff_iff];simp [];omega))
theorem spec_BlockOwner (s:Int):Snd Try.prog 48 [.int .i64 s] (.int .i64 (ownerOf s)) [.unk]:=Runs.snd (M:=M) (c:=⟨1,[2,5],[],[]⟩) tok ks mixed Try.func48 (p := []) (by kernel_rfl) (by rfl) (by rfl) <| by
 (try simp -implicitDefEqProofs (disch:=first|exact dd|fail)[Try.f48]);(repeat'((with_reducible first|(refine Br.out ?_ ?_<;>intro h<;>(try(have h0:=h;simp only[bH]at h)))|refine AC_snd (spec_l01In _ _ _) ?_|fail)<;>(try simp -implicitDefEqProofs (disch:=first|exact dd|fail)[Try.f48])))
 all_goals (unfold ownerOf;first | omega | (simp [];done) | (simp [];omega) | (rw [Bool.eq_iff_iff];simp [];done) | (rw [Bool.eq_iff_iff];simp [];omega))
theorem cmp_isNaN (s:Int):Snd Try.prog 68 [.int .i64 s] (.bool false) [.unk]:=Runs.snd (M:=M) (c:=⟨1,[2],[],[]⟩) tok ks mixed Try.func68 (p := []) (by kernel_rfl) (by rfl) (by rfl) <| by
 (try simp -implicitDefEqProofs (disch:=first|exact dd|fail)[Try.f68]);(repeat'((with_reducible first|(refine Br.out ?_ ?_<;>intro h<;>(try(have h0:=h;simp only[bH]at h)))|fail)<;>(try simp -implicitDefEqProofs (disch:=first|exact dd|fail)[Try.f68])))
def cmpI (a b:Int):Int:=if a < b then -1 else if a > b then 1 else 0
theorem cmp_Compare (a b:Int):Snd Try.prog 65 [.int .i64 a, .int .i64 b] (.int .i64 (cmpI a b)) [.unk, .unk]:=Runs.snd (M:=M) (c:=⟨2,[4,5,6,11,12,13,16,19],[],[]⟩) tok ks mixed Try.func65 (p := []) (by kernel_rfl) (by rfl) (by rfl) <| by
 (try simp -implicitDefEqProofs (disch:=first|exact dd|fail)[Try.f65]);(repeat'((with_reducible first|(refine Br.out ?_ ?_<;>intro h<;>(try(have h0:=h;simp only[bH]at h)))|refine AC_snd (cmp_isNaN _) ?_|fail)<;>(try simp -implicitDefEqProofs (disch:=first|exact dd|fail)[Try.f65])))
 all_goals (unfold cmpI;first | omega | (simp [];done) | (simp [];omega) | (rw [Bool.eq_iff_iff];simp [];done) | (rw [Bool.eq_iff_iff];simp [];omega))
end Go.Proofs.Ytombegncnofnbaa
