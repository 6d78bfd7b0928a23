import Derived.Test.YtpofjodnljeegaaGreatP03a
namespace Go.Proofs.YtpofjodnljeegaaGreat
open Go.Fw
set_option linter.unusedVariables false
set_option linter.unusedSimpArgs false
set_option maxHeartbeats 4000000 in
theorem slices_EqualInt (n1 n2 : Option Bool) (xs ys : List Int) (hl : xs.length ≤ 1048576) :
  Snd Tryz.prog 101 [.frz 1 n1 (xs.map ci), .frz 1 n2 (ys.map ci)] (.bool (decide (xs = ys))) [.unk, .unk] := Runs.snd (M := M) (c := ⟨2, [4, 5, 10, 12, 13, 14, 24], [], [(1, [0, 1, 4, 10, 12, 13, 14, 24])]⟩) tok ks mixed Tryz.func101 (p := []) (by kernel_rfl) (by rfl) (by rfl) <| by
 (try simp -implicitDefEqProofs (disch := first | exact dd | fail) [Tryz.f101]); (repeat' ((with_reducible first | (refine Br.out ?_ ?_ <;> intro h <;> (try (have h0 := h; simp only [bH] at h))) | fail) <;> (try simp -implicitDefEqProofs (disch := first | exact dd | fail) [Tryz.f101])))
 rotate_left
 ·rintro rfl; omega
 refine AL_ind (fun i => xs.length - i) (fun i => ⟨[(0, .frz 1 n1 (xs.map ci)), (1, .frz 1 n2 (ys.map ci)), (4, .bool false), (12, .int .i64 xs.length), (13, .int .i64 i)], [], false⟩)
  (fun i => i ≤ xs.length ∧ xs.take i = ys.take i) 0 rfl ⟨by omega, rfl⟩ ?_
 rintro i n ⟨hi, he⟩ ih
 rcases Nat.lt_or_ge i xs.length with hlt | hge
 ·have hlt' : i < ys.length := by omega
  (try simp -implicitDefEqProofs (disch := first | exact dd | fail) [Tryz.f101, hlt, hlt']); (repeat' ((with_reducible first | (refine Br.out ?_ ?_ <;> intro h <;> (try (have h0 := h; simp only [bH] at h))) | fail) <;> (try simp -implicitDefEqProofs (disch := first | exact dd | fail) [Tryz.f101, hlt, hlt'])))
  all_goals first
   |(refine ih (i + 1) ⟨by omega, take_step hlt hlt' he ?_⟩ (by omega); revert h; generalize xs[i] = x; generalize ys[i] = y; cases x <;> cases y <;> simp)
   |(rintro rfl; simp at h)
 ·obtain rfl : i = xs.length := by omega
  (try simp -implicitDefEqProofs (disch := first | exact dd | fail) [Tryz.f101]); (repeat' ((with_reducible first | (refine Br.out ?_ ?_ <;> intro h <;> (try (have h0 := h; simp only [bH] at h))) | fail) <;> (try simp -implicitDefEqProofs (disch := first | exact dd | fail) [Tryz.f101])))
  exact take_all (by omega) he
set_option maxHeartbeats 4000000 in
theorem slices_EqualAcl (n1 n2 : Option Bool) (xs ys : List DAcl) (hl : xs.length ≤ 1048576) :
  Snd Tryz.prog 102 [.frz 3 n1 (xs.map cAcl), .frz 3 n2 (ys.map cAcl)] (.bool (decide (xs = ys))) [.unk, .unk] := Runs.snd (M := M) (c := ⟨2, [4, 5, 10, 12, 13, 14, 24], [], [(1, [0, 1, 4, 10, 12, 13, 14, 24])]⟩) tok ks mixed Tryz.func102 (p := []) (by kernel_rfl) (by rfl) (by rfl) <| by
 (try simp -implicitDefEqProofs (disch := first | exact dd | fail) [Tryz.f102]); (repeat' ((with_reducible first | (refine Br.out ?_ ?_ <;> intro h <;> (try (have h0 := h; simp only [bH] at h))) | fail) <;> (try simp -implicitDefEqProofs (disch := first | exact dd | fail) [Tryz.f102])))
 rotate_left
 ·rintro rfl; omega
 refine AL_ind (fun i => xs.length - i) (fun i => ⟨[(0, .frz 3 n1 (xs.map cAcl)), (1, .frz 3 n2 (ys.map cAcl)), (4, .bool false), (12, .int .i64 xs.length), (13, .int .i64 i)], [], false⟩)
  (fun i => i ≤ xs.length ∧ xs.take i = ys.take i) 0 rfl ⟨by omega, rfl⟩ ?_
 rintro i n ⟨hi, he⟩ ih
 rcases Nat.lt_or_ge i xs.length with hlt | hge
 ·have hlt' : i < ys.length := by omega
  (try simp -implicitDefEqProofs (disch := first | exact dd | fail) [Tryz.f102, hlt, hlt']); (repeat' ((with_reducible first | (refine Br.out ?_ ?_ <;> intro h <;> (try (have h0 := h; simp only [bH] at h))) | fail) <;> (try simp -implicitDefEqProofs (disch := first | exact dd | fail) [Tryz.f102, hlt, hlt'])))
  all_goals first
   |(refine ih (i + 1) ⟨by omega, take_step hlt hlt' he ?_⟩ (by omega); revert h; generalize xs[i] = x; generalize ys[i] = y; cases x <;> cases y <;> simp)
   |(rintro rfl; simp at h)
 ·obtain rfl : i = xs.length := by omega
  (try simp -implicitDefEqProofs (disch := first | exact dd | fail) [Tryz.f102]); (repeat' ((with_reducible first | (refine Br.out ?_ ?_ <;> intro h <;> (try (have h0 := h; simp only [bH] at h))) | fail) <;> (try simp -implicitDefEqProofs (disch := first | exact dd | fail) [Tryz.f102])))
  exact take_all (by omega) he
end Go.Proofs.YtpofjodnljeegaaGreat
