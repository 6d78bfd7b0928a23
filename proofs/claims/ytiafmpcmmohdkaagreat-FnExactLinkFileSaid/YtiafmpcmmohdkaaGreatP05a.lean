import Derived.Test.YtiafmpcmmohdkaaGreatDat
import Derived.Test.YtiafmpcmmohdkaaGreatBase
import Derived.Test.YtiafmpcmmohdkaaGreatM11
namespace Go.Proofs.YtiafmpcmmohdkaaGreat
open Go.Fw
set_option linter.unusedVariables false
set_option linter.unusedSimpArgs false
set_option maxHeartbeats 1000000 in
theorem spec_l01In (n a b : Int) : Snd Tryz.prog 115 [.int .i64 n, .int .i64 a, .int .i64 b] (.bool (decide (a ≤ n) && decide (n ≤ b))) [.unk, .unk, .unk] := Runs.snd (M := M) (c := ⟨3, [6], [], []⟩) tok ks mixed Tryz.func115 (p := []) (by kernel_rfl) (by rfl) (by rfl) <| by
 by_cases h : n ≥ a
 ·have h' : a ≤ n := h
  simp -implicitDefEqProofs (disch := first | exact dd | fail) [Tryz.f115, h, h', ABr, AGd]
 ·have h' : ¬ a ≤ n := h
  simp -implicitDefEqProofs (disch := first | exact dd | fail) [Tryz.f115, h, h', ABr, AGd]
theorem impl_isUser (u : Int) : Snd Tryz.prog 131 [.int .i64 u] (.bool (decide (IsUser u))) [.unk] := Runs.snd (M := M) (c := ⟨1, [2], [], []⟩) tok ks mixed Tryz.func131 (p := []) (by kernel_rfl) (by rfl) (by rfl) <| by
 (try simp -implicitDefEqProofs (disch := first | exact dd | fail) [Tryz.f131]); (repeat' ((with_reducible first | (refine Br.out ?_ ?_ <;> intro h <;> (try (have h0 := h; simp only [bH] at h))) | fail) <;> (try simp -implicitDefEqProofs (disch := first | exact dd | fail) [Tryz.f131])))
 all_goals first | omega | (simp []; done) | (simp []; omega) | (rw [Bool.eq_iff_iff]; simp []; done) | (rw [Bool.eq_iff_iff]; simp []; omega)
theorem spec_l06User (u : Int) : Snd Tryz.prog 130 [.int .i64 u] (.bool (decide (IsUser u))) [.unk] := Runs.snd (M := M) (c := ⟨1, [2], [], []⟩) tok ks mixed Tryz.func130 (p := []) (by kernel_rfl) (by rfl) (by rfl) <| by
 (try simp -implicitDefEqProofs (disch := first | exact dd | fail) [Tryz.f130]); (repeat' ((with_reducible first | (refine Br.out ?_ ?_ <;> intro h <;> (try (have h0 := h; simp only [bH] at h))) | refine AC_snd (spec_l01In _ _ _) ?_ | fail) <;> (try simp -implicitDefEqProofs (disch := first | exact dd | fail) [Tryz.f130])))
 all_goals first | omega | (simp []; done) | (simp []; omega) | (rw [Bool.eq_iff_iff]; simp []; done) | (rw [Bool.eq_iff_iff]; simp []; omega)
theorem impl_isMode (u : Int) : Snd Tryz.prog 160 [.int .i64 u] (.bool (decide (IsMode u))) [.unk] := Runs.snd (M := M) (c := ⟨1, [2], [], []⟩) tok ks mixed Tryz.func160 (p := []) (by kernel_rfl) (by rfl) (by rfl) <| by
 (try simp -implicitDefEqProofs (disch := first | exact dd | fail) [Tryz.f160]); (repeat' ((with_reducible first | (refine Br.out ?_ ?_ <;> intro h <;> (try (have h0 := h; simp only [bH] at h))) | fail) <;> (try simp -implicitDefEqProofs (disch := first | exact dd | fail) [Tryz.f160])))
 all_goals first | omega | (simp []; done) | (simp []; omega) | (rw [Bool.eq_iff_iff]; simp []; done) | (rw [Bool.eq_iff_iff]; simp []; omega)
theorem spec_l06Mode (u : Int) : Snd Tryz.prog 153 [.int .i64 u] (.bool (decide (IsMode u))) [.unk] := Runs.snd (M := M) (c := ⟨1, [2], [], []⟩) tok ks mixed Tryz.func153 (p := []) (by kernel_rfl) (by rfl) (by rfl) <| by
 (try simp -implicitDefEqProofs (disch := first | exact dd | fail) [Tryz.f153]); (repeat' ((with_reducible first | (refine Br.out ?_ ?_ <;> intro h <;> (try (have h0 := h; simp only [bH] at h))) | refine AC_snd (spec_l01In _ _ _) ?_ | fail) <;> (try simp -implicitDefEqProofs (disch := first | exact dd | fail) [Tryz.f153])))
 all_goals first | omega | (simp []; done) | (simp []; omega) | (rw [Bool.eq_iff_iff]; simp []; done) | (rw [Bool.eq_iff_iff]; simp []; omega)
theorem impl_BlocksNeeded (s : Int) (h : s ≤ 9223372036854775807) : Snd Tryz.prog 161 [.int .i64 s] (.int .i64 (blocksNeeded s)) [.unk] := Runs.snd (M := M) (c := ⟨1, [2, 4], [], []⟩) tok ks mixed Tryz.func161 (p := []) (by kernel_rfl) (by rfl) (by rfl) <| by
 (try simp -implicitDefEqProofs (disch := first | exact dd | fail) [Tryz.f161]); (repeat' ((with_reducible first | (refine Br.out ?_ ?_ <;> intro h <;> (try (have h0 := h; simp only [bH] at h))) | fail) <;> (try simp -implicitDefEqProofs (disch := first | exact dd | fail) [Tryz.f161])))
 all_goals (unfold blocksNeeded; first | omega | (simp []; done) | (simp []; omega) | (rw [Bool.eq_iff_iff]; simp []; done) | (rw [Bool.eq_iff_iff]; simp []; omega))
theorem spec_BlocksNeeded (s : Int) (h : s ≤ 9223372036854775807) : Snd Tryz.prog 154 [.int .i64 s] (.int .i64 (blocksNeeded s)) [.unk] := Runs.snd (M := M) (c := ⟨1, [2, 4], [], []⟩) tok ks mixed Tryz.func154 (p := []) (by kernel_rfl) (by rfl) (by rfl) <| by
 (try simp -implicitDefEqProofs (disch := first | exact dd | fail) [Tryz.f154]); (repeat' ((with_reducible first | (refine Br.out ?_ ?_ <;> intro h <;> (try (have h0 := h; simp only [bH] at h))) | fail) <;> (try simp -implicitDefEqProofs (disch := first | exact dd | fail) [Tryz.f154])))
 all_goals (unfold blocksNeeded; first | omega | (simp []; done) | (simp []; omega) | (rw [Bool.eq_iff_iff]; simp []; done) | (rw [Bool.eq_iff_iff]; simp []; omega))
theorem impl_BlockOwner (s : Int) : Snd Tryz.prog 119 [.int .i64 s] (.int .i64 (ownerOf s)) [.unk] := Runs.snd (M := M) (c := ⟨1, [2, 8], [], []⟩) tok ks mixed Tryz.func119 (p := []) (by kernel_rfl) (by rfl) (by rfl) <| by
 (try simp -implicitDefEqProofs (disch := first | exact dd | fail) [Tryz.f119]); (repeat' ((with_reducible first | (refine Br.out ?_ ?_ <;> intro h <;> (try (have h0 := h; simp only [bH] at h))) | fail) <;> (try simp -implicitDefEqProofs (disch := first | exact dd | fail) [Tryz.f119])))
 all_goals (unfold ownerOf; first | omega | (simp []; done) | (simp []; omega) | (rw [Bool.eq_iff_iff]; simp []; done) | (rw [Bool.eq_iff_iff]; simp []; omega))
theorem spec_BlockOwner (s : Int) : Snd Tryz.prog 163 [.int .i64 s] (.int .i64 (ownerOf s)) [.unk] := Runs.snd (M := M) (c := ⟨1, [2, 5], [], []⟩) tok ks mixed Tryz.func163 (p := []) (by kernel_rfl) (by rfl) (by rfl) <| by
 (try simp -implicitDefEqProofs (disch := first | exact dd | fail) [Tryz.f163]); (repeat' ((with_reducible first | (refine Br.out ?_ ?_ <;> intro h <;> (try (have h0 := h; simp only [bH] at h))) | refine AC_snd (spec_l01In _ _ _) ?_ | fail) <;> (try simp -implicitDefEqProofs (disch := first | exact dd | fail) [Tryz.f163])))
 all_goals (unfold ownerOf; first | omega | (simp []; done) | (simp []; omega) | (rw [Bool.eq_iff_iff]; simp []; done) | (rw [Bool.eq_iff_iff]; simp []; omega))
theorem cmp_isNaN (s : Int) : Snd Tryz.prog 210 [.int .i64 s] (.bool false) [.unk] := Runs.snd (M := M) (c := ⟨1, [2], [], []⟩) tok ks mixed Tryz.func210 (p := []) (by kernel_rfl) (by rfl) (by rfl) <| by
 (try simp -implicitDefEqProofs (disch := first | exact dd | fail) [Tryz.f210]); (repeat' ((with_reducible first | (refine Br.out ?_ ?_ <;> intro h <;> (try (have h0 := h; simp only [bH] at h))) | fail) <;> (try simp -implicitDefEqProofs (disch := first | exact dd | fail) [Tryz.f210])))
def cmpI (a b : Int) : Int := if a < b then -1 else if a > b then 1 else 0
theorem cmp_Compare (a b : Int) : Snd Tryz.prog 199 [.int .i64 a, .int .i64 b] (.int .i64 (cmpI a b)) [.unk, .unk] := Runs.snd (M := M) (c := ⟨2, [4, 5, 6, 11, 12, 13, 16, 19], [], []⟩) tok ks mixed Tryz.func199 (p := []) (by kernel_rfl) (by rfl) (by rfl) <| by
 (try simp -implicitDefEqProofs (disch := first | exact dd | fail) [Tryz.f199]); (repeat' ((with_reducible first | (refine Br.out ?_ ?_ <;> intro h <;> (try (have h0 := h; simp only [bH] at h))) | refine AC_snd (cmp_isNaN _) ?_ | fail) <;> (try simp -implicitDefEqProofs (disch := first | exact dd | fail) [Tryz.f199])))
 all_goals (unfold cmpI; first | omega | (simp []; done) | (simp []; omega) | (rw [Bool.eq_iff_iff]; simp []; done) | (rw [Bool.eq_iff_iff]; simp []; omega))
end Go.Proofs.YtiafmpcmmohdkaaGreat
