import Derived.Test.YtgopfdninbknpaaGreatP03a
namespace Go.Proofs.YtgopfdninbknpaaGreat
open Go.Fw
set_option linter.unusedVariables false
set_option linter.unusedSimpArgs false
set_option maxHeartbeats 4000000 in
theorem slices_CloneInt (n : Option Bool) (xs : List Int) (hl : xs.length ≤ 1048576) : Snd Tryz.prog 209 [.frz 1 n (xs.map ci)] (.row 1 (xs.map ci)) [.unk] := by
 have hl' : xs.length ≤ LIM := by unfold LIM; omega
 refine Snd.frz_cases (pre := []) (post := []) (fun e => ?_) (?_)
 ·obtain rfl : xs = [] := by simpa using e
  exact Runs.snd (M := M) (c := ⟨1, [2, 4], [], []⟩) tok ks mixed Tryz.func209 (p := []) (by kernel_rfl) (by rfl) (by rfl) <| by
   simp -implicitDefEqProofs (disch := first | exact dd | fail) [Tryz.f209, ABr, AGd]
 ·exact Runs.snd (M := M) (c := ⟨1, [2, 4], [], []⟩) tok ks mixed Tryz.func209 (p := []) (by kernel_rfl) (by rfl) (by rfl) <| by
   simp -implicitDefEqProofs (disch := first | exact dd | fail) [Tryz.f209, hl', ABr, AGd]
set_option maxHeartbeats 4000000 in
theorem slices_EqualInt (n1 n2 : Option Bool) (xs ys : List Int) (hl : xs.length ≤ 1048576) :
  Snd Tryz.prog 263 [.frz 1 n1 (xs.map ci), .frz 1 n2 (ys.map ci)] (.bool (decide (xs = ys))) [.unk, .unk] := Runs.snd (M := M) (c := ⟨2, [4, 5, 10, 12, 13, 14, 24], [], [(1, [0, 1, 4, 10, 12, 13, 14, 24])]⟩) tok ks mixed Tryz.func263 (p := []) (by kernel_rfl) (by rfl) (by rfl) <| by
 (try simp -implicitDefEqProofs (disch := first | exact dd | fail) [Tryz.f263]); (repeat' ((with_reducible first | (refine Br.out ?_ ?_ <;> intro h <;> (try (have h0 := h; simp only [bH] at h))) | fail) <;> (try simp -implicitDefEqProofs (disch := first | exact dd | fail) [Tryz.f263])))
 rotate_left
 ·rintro rfl; omega
 refine AL_ind (fun i => xs.length - i) (fun i => ⟨[(0, .frz 1 n1 (xs.map ci)), (1, .frz 1 n2 (ys.map ci)), (4, .bool false), (12, .int .i64 xs.length), (13, .int .i64 i)], [], false⟩)
  (fun i => i ≤ xs.length ∧ xs.take i = ys.take i) 0 rfl ⟨by omega, rfl⟩ ?_
 rintro i n ⟨hi, he⟩ ih
 rcases Nat.lt_or_ge i xs.length with hlt | hge
 ·have hlt' : i < ys.length := by omega
  (try simp -implicitDefEqProofs (disch := first | exact dd | fail) [Tryz.f263, hlt, hlt']); (repeat' ((with_reducible first | (refine Br.out ?_ ?_ <;> intro h <;> (try (have h0 := h; simp only [bH] at h))) | fail) <;> (try simp -implicitDefEqProofs (disch := first | exact dd | fail) [Tryz.f263, hlt, hlt'])))
  all_goals first
   |(refine ih (i + 1) ⟨by omega, take_step hlt hlt' he ?_⟩ (by omega); revert h; generalize xs[i] = x; generalize ys[i] = y; cases x <;> cases y <;> simp)
   |(rintro rfl; simp at h)
 ·obtain rfl : i = xs.length := by omega
  (try simp -implicitDefEqProofs (disch := first | exact dd | fail) [Tryz.f263]); (repeat' ((with_reducible first | (refine Br.out ?_ ?_ <;> intro h <;> (try (have h0 := h; simp only [bH] at h))) | fail) <;> (try simp -implicitDefEqProofs (disch := first | exact dd | fail) [Tryz.f263])))
  exact take_all (by omega) he
set_option maxHeartbeats 4000000 in
theorem slices_CloneAcl (n : Option Bool) (xs : List DAcl) (hl : xs.length ≤ 1048576) : Snd Tryz.prog 85 [.frz 3 n (xs.map cAcl)] (.row 3 (xs.map cAcl)) [.unk] := by
 have hl' : xs.length ≤ LIM := by unfold LIM; omega
 refine Snd.frz_cases (pre := []) (post := []) (fun e => ?_) (?_)
 ·obtain rfl : xs = [] := by simpa using e
  exact Runs.snd (M := M) (c := ⟨1, [2, 4], [], []⟩) tok ks mixed Tryz.func85 (p := []) (by kernel_rfl) (by rfl) (by rfl) <| by
   simp -implicitDefEqProofs (disch := first | exact dd | fail) [Tryz.f85, ABr, AGd]
 ·exact Runs.snd (M := M) (c := ⟨1, [2, 4], [], []⟩) tok ks mixed Tryz.func85 (p := []) (by kernel_rfl) (by rfl) (by rfl) <| by
   simp -implicitDefEqProofs (disch := first | exact dd | fail) [Tryz.f85, hl', ABr, AGd]
set_option maxHeartbeats 4000000 in
theorem slices_EqualAcl (n1 n2 : Option Bool) (xs ys : List DAcl) (hl : xs.length ≤ 1048576) :
  Snd Tryz.prog 264 [.frz 3 n1 (xs.map cAcl), .frz 3 n2 (ys.map cAcl)] (.bool (decide (xs = ys))) [.unk, .unk] := Runs.snd (M := M) (c := ⟨2, [4, 5, 10, 12, 13, 14, 24], [], [(1, [0, 1, 4, 10, 12, 13, 14, 24])]⟩) tok ks mixed Tryz.func264 (p := []) (by kernel_rfl) (by rfl) (by rfl) <| by
 (try simp -implicitDefEqProofs (disch := first | exact dd | fail) [Tryz.f264]); (repeat' ((with_reducible first | (refine Br.out ?_ ?_ <;> intro h <;> (try (have h0 := h; simp only [bH] at h))) | fail) <;> (try simp -implicitDefEqProofs (disch := first | exact dd | fail) [Tryz.f264])))
 rotate_left
 ·rintro rfl; omega
 refine AL_ind (fun i => xs.length - i) (fun i => ⟨[(0, .frz 3 n1 (xs.map cAcl)), (1, .frz 3 n2 (ys.map cAcl)), (4, .bool false), (12, .int .i64 xs.length), (13, .int .i64 i)], [], false⟩)
  (fun i => i ≤ xs.length ∧ xs.take i = ys.take i) 0 rfl ⟨by omega, rfl⟩ ?_
 rintro i n ⟨hi, he⟩ ih
 rcases Nat.lt_or_ge i xs.length with hlt | hge
 ·have hlt' : i < ys.length := by omega
  (try simp -implicitDefEqProofs (disch := first | exact dd | fail) [Tryz.f264, hlt, hlt']); (repeat' ((with_reducible first | (refine Br.out ?_ ?_ <;> intro h <;> (try (have h0 := h; simp only [bH] at h))) | fail) <;> (try simp -implicitDefEqProofs (disch := first | exact dd | fail) [Tryz.f264, hlt, hlt'])))
  all_goals first
   |(refine ih (i + 1) ⟨by omega, take_step hlt hlt' he ?_⟩ (by omega); revert h; generalize xs[i] = x; generalize ys[i] = y; cases x <;> cases y <;> simp)
   |(rintro rfl; simp at h)
 ·obtain rfl : i = xs.length := by omega
  (try simp -implicitDefEqProofs (disch := first | exact dd | fail) [Tryz.f264]); (repeat' ((with_reducible first | (refine Br.out ?_ ?_ <;> intro h <;> (try (have h0 := h; simp only [bH] at h))) | fail) <;> (try simp -implicitDefEqProofs (disch := first | exact dd | fail) [Tryz.f264])))
  exact take_all (by omega) he
set_option maxHeartbeats 4000000 in
theorem slices_CloneQuota (n : Option Bool) (xs : List DQuota) (hl : xs.length ≤ 1048576) : Snd Tryz.prog 156 [.frz 2 n (xs.map cQuota)] (.row 2 (xs.map cQuota)) [.unk] := by
 have hl' : xs.length ≤ LIM := by unfold LIM; omega
 refine Snd.frz_cases (pre := []) (post := []) (fun e => ?_) (?_)
 ·obtain rfl : xs = [] := by simpa using e
  exact Runs.snd (M := M) (c := ⟨1, [2, 4], [], []⟩) tok ks mixed Tryz.func156 (p := []) (by kernel_rfl) (by rfl) (by rfl) <| by
   simp -implicitDefEqProofs (disch := first | exact dd | fail) [Tryz.f156, ABr, AGd]
 ·exact Runs.snd (M := M) (c := ⟨1, [2, 4], [], []⟩) tok ks mixed Tryz.func156 (p := []) (by kernel_rfl) (by rfl) (by rfl) <| by
   simp -implicitDefEqProofs (disch := first | exact dd | fail) [Tryz.f156, hl', ABr, AGd]
set_option maxHeartbeats 4000000 in
theorem slices_CloneOpen (n : Option Bool) (xs : List DOpen) (hl : xs.length ≤ 1048576) : Snd Tryz.prog 201 [.frz 3 n (xs.map cOpen)] (.row 3 (xs.map cOpen)) [.unk] := by
 have hl' : xs.length ≤ LIM := by unfold LIM; omega
 refine Snd.frz_cases (pre := []) (post := []) (fun e => ?_) (?_)
 ·obtain rfl : xs = [] := by simpa using e
  exact Runs.snd (M := M) (c := ⟨1, [2, 4], [], []⟩) tok ks mixed Tryz.func201 (p := []) (by kernel_rfl) (by rfl) (by rfl) <| by
   simp -implicitDefEqProofs (disch := first | exact dd | fail) [Tryz.f201, ABr, AGd]
 ·exact Runs.snd (M := M) (c := ⟨1, [2, 4], [], []⟩) tok ks mixed Tryz.func201 (p := []) (by kernel_rfl) (by rfl) (by rfl) <| by
   simp -implicitDefEqProofs (disch := first | exact dd | fail) [Tryz.f201, hl', ABr, AGd]
end Go.Proofs.YtgopfdninbknpaaGreat
