import Derived.Test.YtpofjodnljeegaaGreatP05b
namespace Go.Proofs.YtpofjodnljeegaaGreat
open Go.Fw
set_option linter.unusedVariables false
set_option linter.unusedSimpArgs false
theorem spec_l02Has (n1 : Option Bool) (xs : List Int) (x : Int) (hl : xs.length ≤ 1048576) : Snd Tryz.prog 78 [.frz 1 n1 (xs.map ci), .int .i64 x] (.bool (decide (x ∈ xs))) [.unk, .unk] := Runs.snd (M := M) (c := ⟨2, [4, 6, 7, 8, 9, 10, 15], [], [(1, [0, 1, 4, 7, 8, 9, 10, 15])]⟩) tok ks mixed Tryz.func78 (p := []) (by kernel_rfl) (by rfl) (by rfl) <| by
 (try simp -implicitDefEqProofs (disch := first | exact dd | fail) [Tryz.f78]); (repeat' ((with_reducible first | (refine Br.out ?_ ?_ <;> intro h <;> (try (have h0 := h; simp only [bH] at h))) | fail) <;> (try simp -implicitDefEqProofs (disch := first | exact dd | fail) [Tryz.f78])))
 refine AL_for 9 xs.length (fun i => x ∈ xs ↔ x ∈ xs.drop i) rfl (by simp) (fun i n hlt he ih => ?_) (fun n he => ?_)
 ·rw [List.drop_eq_getElem_cons hlt, List.mem_cons] at he
  (try simp -implicitDefEqProofs (disch := first | exact dd | fail) [Tryz.f78, hlt]); (repeat' ((with_reducible first | (refine Br.out ?_ ?_ <;> intro h <;> (try (have h0 := h; simp only [bH] at h))) | fail) <;> (try simp -implicitDefEqProofs (disch := first | exact dd | fail) [Tryz.f78, hlt])))
  ·rw [he]; exact .inl h.symm
  ·refine ih (he.trans ⟨fun h1 => h1.resolve_left fun h2 => h h2.symm, .inr⟩)
 ·rw [List.drop_length] at he
  (try simp -implicitDefEqProofs (disch := first | exact dd | fail) [Tryz.f78]); (repeat' ((with_reducible first | (refine Br.out ?_ ?_ <;> intro h <;> (try (have h0 := h; simp only [bH] at h))) | fail) <;> (try simp -implicitDefEqProofs (disch := first | exact dd | fail) [Tryz.f78])))
  simpa using he
def idx (x : Int) : List Int → Int
 | [] => -1
 | y :: l => if y = x then 0 else if idx x l < 0 then -1 else idx x l + 1
theorem idx_mem {x : Int} {l : List Int} : 0 ≤ idx x l ↔ x ∈ l := by
 induction l with
 | nil => simp [idx]
 | cons y l ih =>
  rw [idx, List.mem_cons, ← ih]
  by_cases h1 : y = x
  ·simp [h1]
  ·have : ¬ x = y := fun e => h1 e.symm
   simp only [h1, this, if_false, false_or]
   split <;> omega
theorem slices_Index (n1 : Option Bool) (xs : List Int) (x : Int) (hl : xs.length ≤ 1048576) : Snd Tryz.prog 105 [.frz 1 n1 (xs.map ci), .int .i64 x] (.int .i64 (idx x xs)) [.unk, .unk] := Runs.snd (M := M) (c := ⟨2, [4, 5, 7, 8, 9, 16], [], [(1, [0, 1, 4, 7, 8, 9, 16])]⟩) tok ks mixed Tryz.func105 (p := []) (by kernel_rfl) (by rfl) (by rfl) <| by
 (try simp -implicitDefEqProofs (disch := first | exact dd | fail) [Tryz.f105]); (repeat' ((with_reducible first | (refine Br.out ?_ ?_ <;> intro h <;> (try (have h0 := h; simp only [bH] at h))) | fail) <;> (try simp -implicitDefEqProofs (disch := first | exact dd | fail) [Tryz.f105])))
 refine AL_for 8 xs.length (fun i => idx x xs = if idx x (xs.drop i) < 0 then -1 else i + idx x (xs.drop i)) rfl ?_ (fun i n hlt he ih => ?_) (fun n he => ?_)
 ·have : -1 ≤ idx x xs := by
   induction xs with
   | nil => simp [idx]
   | cons y l _ => rw [idx]; split; omega; split <;> omega
  simp only [List.drop_zero]
  split <;> omega
 ·rw [List.drop_eq_getElem_cons hlt, idx] at he
  (try simp -implicitDefEqProofs (disch := first | exact dd | fail) [Tryz.f105, hlt]); (repeat' ((with_reducible first | (refine Br.out ?_ ?_ <;> intro h <;> (try (have h0 := h; simp only [bH] at h))) | fail) <;> (try simp -implicitDefEqProofs (disch := first | exact dd | fail) [Tryz.f105, hlt])))
  ·rw [he, if_pos (show xs[i] = x from h.symm)]; simp
  ·refine ih ?_
   rw [he, if_neg (fun e : xs[i] = x => h e.symm)]
   repeat' split
   all_goals omega
 ·rw [List.drop_length] at he
  (try simp -implicitDefEqProofs (disch := first | exact dd | fail) [Tryz.f105]); (repeat' ((with_reducible first | (refine Br.out ?_ ?_ <;> intro h <;> (try (have h0 := h; simp only [bH] at h))) | fail) <;> (try simp -implicitDefEqProofs (disch := first | exact dd | fail) [Tryz.f105])))
  simp [he, idx]
theorem slices_Contains (n1 : Option Bool) (xs : List Int) (x : Int) (hl : xs.length ≤ 1048576) : Snd Tryz.prog 90 [.frz 1 n1 (xs.map ci), .int .i64 x] (.bool (decide (x ∈ xs))) [.unk, .unk] := Runs.snd (M := M) (c := ⟨2, [4], [], []⟩) tok ks mixed Tryz.func90 (p := []) (by kernel_rfl) (by rfl) (by rfl) <| by
 (try simp -implicitDefEqProofs (disch := first | exact dd | fail) [Tryz.f90]); (repeat' ((with_reducible first | (refine Br.out ?_ ?_ <;> intro h <;> (try (have h0 := h; simp only [bH] at h))) | refine AC_snd (slices_Index _ xs x hl) ?_ | fail) <;> (try simp -implicitDefEqProofs (disch := first | exact dd | fail) [Tryz.f90])))
 exact idx_mem
theorem low3 {x : Int} (h0 : 0 ≤ x) (h1 : x < 9223372036854775808) : iAnd x 7 = x % 8 := iAnd_low (k := 3) h0 h1 (by decide)
end Go.Proofs.YtpofjodnljeegaaGreat
