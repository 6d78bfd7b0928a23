import Derived.Test.YtpofjodnljeegaaDat
import Derived.Test.YtpofjodnljeegaaBase
import Derived.Test.YtpofjodnljeegaaM11
namespace Go.Proofs.Ytpofjodnljeegaa
open Go.Fw
set_option linter.unusedVariables false
set_option linter.unusedSimpArgs false
set_option maxHeartbeats 1000000 in
theorem spec_l01In (n a b : Int) : Snd Try.prog 91 [.int .i64 n, .int .i64 a, .int .i64 b] (.bool (decide (a ≤ n) && decide (n ≤ b))) [.unk, .unk, .unk] := Runs.snd (M := M) (c := ⟨3, [6], [], []⟩) tok ks mixed Try.func91 (p := []) (by kernel_rfl) (by rfl) (by rfl) <| by
 by_cases h : n ≥ a
 ·have h' : a ≤ n := h
  simp -implicitDefEqProofs (disch := first | exact dd | fail) [Try.f91, h, h', ABr, AGd]
 ·have h' : ¬ a ≤ n := h
  simp -implicitDefEqProofs (disch := first | exact dd | fail) [Try.f91, h, h', ABr, AGd]
theorem impl_isUser (u : Int) : Snd Try.prog 113 [.int .i64 u] (.bool (decide (IsUser u))) [.unk] := Runs.snd (M := M) (c := ⟨1, [2], [], []⟩) tok ks mixed Try.func113 (p := []) (by kernel_rfl) (by rfl) (by rfl) <| by
 (try simp -implicitDefEqProofs (disch := first | exact dd | fail) [Try.f113]); (repeat' ((with_reducible first | (refine Br.out ?_ ?_ <;> intro h <;> (try (have h0 := h; simp only [bH] at h))) | fail) <;> (try simp -implicitDefEqProofs (disch := first | exact dd | fail) [Try.f113])))
 all_goals first | omega | (simp []; done) | (simp []; omega) | (rw [Bool.eq_iff_iff]; simp []; done) | (rw [Bool.eq_iff_iff]; simp []; omega)
theorem spec_l06User (u : Int) : Snd Try.prog 75 [.int .i64 u] (.bool (decide (IsUser u))) [.unk] := Runs.snd (M := M) (c := ⟨1, [2], [], []⟩) tok ks mixed Try.func75 (p := []) (by kernel_rfl) (by rfl) (by rfl) <| by
 (try simp -implicitDefEqProofs (disch := first | exact dd | fail) [Try.f75]); (repeat' ((with_reducible first | (refine Br.out ?_ ?_ <;> intro h <;> (try (have h0 := h; simp only [bH] at h))) | refine AC_snd (spec_l01In _ _ _) ?_ | fail) <;> (try simp -implicitDefEqProofs (disch := first | exact dd | fail) [Try.f75])))
 all_goals first | omega | (simp []; done) | (simp []; omega) | (rw [Bool.eq_iff_iff]; simp []; done) | (rw [Bool.eq_iff_iff]; simp []; omega)
theorem impl_isMode (u : Int) : Snd Try.prog 140 [.int .i64 u] (.bool (decide (IsMode u))) [.unk] := Runs.snd (M := M) (c := ⟨1, [2], [], []⟩) tok ks mixed Try.func140 (p := []) (by kernel_rfl) (by rfl) (by rfl) <| by
 (try simp -implicitDefEqProofs (disch := first | exact dd | fail) [Try.f140]); (repeat' ((with_reducible first | (refine Br.out ?_ ?_ <;> intro h <;> (try (have h0 := h; simp only [bH] at h))) | fail) <;> (try simp -implicitDefEqProofs (disch := first | exact dd | fail) [Try.f140])))
 all_goals first | omega | (simp []; done) | (simp []; omega) | (rw [Bool.eq_iff_iff]; simp []; done) | (rw [Bool.eq_iff_iff]; simp []; omega)
theorem spec_l06Mode (u : Int) : Snd Try.prog 134 [.int .i64 u] (.bool (decide (IsMode u))) [.unk] := Runs.snd (M := M) (c := ⟨1, [2], [], []⟩) tok ks mixed Try.func134 (p := []) (by kernel_rfl) (by rfl) (by rfl) <| by
 (try simp -implicitDefEqProofs (disch := first | exact dd | fail) [Try.f134]); (repeat' ((with_reducible first | (refine Br.out ?_ ?_ <;> intro h <;> (try (have h0 := h; simp only [bH] at h))) | refine AC_snd (spec_l01In _ _ _) ?_ | fail) <;> (try simp -implicitDefEqProofs (disch := first | exact dd | fail) [Try.f134])))
 all_goals first | omega | (simp []; done) | (simp []; omega) | (rw [Bool.eq_iff_iff]; simp []; done) | (rw [Bool.eq_iff_iff]; simp []; omega)
theorem impl_BlocksNeeded (s : Int) (h : s ≤ 9223372036854775807) : Snd Try.prog 110 [.int .i64 s] (.int .i64 (blocksNeeded s)) [.unk] := Runs.snd (M := M) (c := ⟨1, [2, 4], [], []⟩) tok ks mixed Try.func110 (p := []) (by kernel_rfl) (by rfl) (by rfl) <| by
 (try simp -implicitDefEqProofs (disch := first | exact dd | fail) [Try.f110]); (repeat' ((with_reducible first | (refine Br.out ?_ ?_ <;> intro h <;> (try (have h0 := h; simp only [bH] at h))) | fail) <;> (try simp -implicitDefEqProofs (disch := first | exact dd | fail) [Try.f110])))
 all_goals (unfold blocksNeeded; first | omega | (simp []; done) | (simp []; omega) | (rw [Bool.eq_iff_iff]; simp []; done) | (rw [Bool.eq_iff_iff]; simp []; omega))
theorem spec_BlocksNeeded (s : Int) (h : s ≤ 9223372036854775807) : Snd Try.prog 109 [.int .i64 s] (.int .i64 (blocksNeeded s)) [.unk] := Runs.snd (M := M) (c := ⟨1, [2, 4], [], []⟩) tok ks mixed Try.func109 (p := []) (by kernel_rfl) (by rfl) (by rfl) <| by
 (try simp -implicitDefEqProofs (disch := first | exact dd | fail) [Try.f109]); (repeat' ((with_reducible first | (refine Br.out ?_ ?_ <;> intro h <;> (try (have h0 := h; simp only [bH] at h))) | fail) <;> (try simp -implicitDefEqProofs (disch := first | exact dd | fail) [Try.f109])))
 all_goals (unfold blocksNeeded; first | omega | (simp []; done) | (simp []; omega) | (rw [Bool.eq_iff_iff]; simp []; done) | (rw [Bool.eq_iff_iff]; simp []; omega))
theorem impl_BlockOwner (s : Int) : Snd Try.prog 107 [.int .i64 s] (.int .i64 (ownerOf s)) [.unk] := Runs.snd (M := M) (c := ⟨1, [2, 8], [], []⟩) tok ks mixed Try.func107 (p := []) (by kernel_rfl) (by rfl) (by rfl) <| by
 (try simp -implicitDefEqProofs (disch := first | exact dd | fail) [Try.f107]); (repeat' ((with_reducible first | (refine Br.out ?_ ?_ <;> intro h <;> (try (have h0 := h; simp only [bH] at h))) | fail) <;> (try simp -implicitDefEqProofs (disch := first | exact dd | fail) [Try.f107])))
 all_goals (unfold ownerOf; first | omega | (simp []; done) | (simp []; omega) | (rw [Bool.eq_iff_iff]; simp []; done) | (rw [Bool.eq_iff_iff]; simp []; omega))
theorem spec_BlockOwner (s : Int) : Snd Try.prog 136 [.int .i64 s] (.int .i64 (ownerOf s)) [.unk] := Runs.snd (M := M) (c := ⟨1, [2, 5], [], []⟩) tok ks mixed Try.func136 (p := []) (by kernel_rfl) (by rfl) (by rfl) <| by
 (try simp -implicitDefEqProofs (disch := first | exact dd | fail) [Try.f136]); (repeat' ((with_reducible first | (refine Br.out ?_ ?_ <;> intro h <;> (try (have h0 := h; simp only [bH] at h))) | refine AC_snd (spec_l01In _ _ _) ?_ | fail) <;> (try simp -implicitDefEqProofs (disch := first | exact dd | fail) [Try.f136])))
 all_goals (unfold ownerOf; first | omega | (simp []; done) | (simp []; omega) | (rw [Bool.eq_iff_iff]; simp []; done) | (rw [Bool.eq_iff_iff]; simp []; omega))
theorem cmp_isNaN (s : Int) : Snd Try.prog 162 [.int .i64 s] (.bool false) [.unk] := Runs.snd (M := M) (c := ⟨1, [2], [], []⟩) tok ks mixed Try.func162 (p := []) (by kernel_rfl) (by rfl) (by rfl) <| by
 (try simp -implicitDefEqProofs (disch := first | exact dd | fail) [Try.f162]); (repeat' ((with_reducible first | (refine Br.out ?_ ?_ <;> intro h <;> (try (have h0 := h; simp only [bH] at h))) | fail) <;> (try simp -implicitDefEqProofs (disch := first | exact dd | fail) [Try.f162])))
def cmpI (a b : Int) : Int := if a < b then -1 else if a > b then 1 else 0
theorem cmp_Compare (a b : Int) : Snd Try.prog 159 [.int .i64 a, .int .i64 b] (.int .i64 (cmpI a b)) [.unk, .unk] := Runs.snd (M := M) (c := ⟨2, [4, 5, 6, 11, 12, 13, 16, 19], [], []⟩) tok ks mixed Try.func159 (p := []) (by kernel_rfl) (by rfl) (by rfl) <| by
 (try simp -implicitDefEqProofs (disch := first | exact dd | fail) [Try.f159]); (repeat' ((with_reducible first | (refine Br.out ?_ ?_ <;> intro h <;> (try (have h0 := h; simp only [bH] at h))) | refine AC_snd (cmp_isNaN _) ?_ | fail) <;> (try simp -implicitDefEqProofs (disch := first | exact dd | fail) [Try.f159])))
 all_goals (unfold cmpI; first | omega | (simp []; done) | (simp []; omega) | (rw [Bool.eq_iff_iff]; simp []; done) | (rw [Bool.eq_iff_iff]; simp []; omega))
end Go.Proofs.Ytpofjodnljeegaa
