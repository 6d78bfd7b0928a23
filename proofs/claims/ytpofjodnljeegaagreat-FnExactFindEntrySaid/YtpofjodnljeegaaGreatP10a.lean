import Derived.Test.YtpofjodnljeegaaGreatP02f
import Derived.Test.YtpofjodnljeegaaGreatM13
namespace Go.Proofs.YtpofjodnljeegaaGreat
open Go.Fw
set_option linter.unusedVariables false
set_option linter.unusedSimpArgs false
theorem nChunks_lt {s : Str} {n j : Nat} (h : 1 ≤ n) : j < nChunks s n ↔ j * n < s.length := by
 have h1 : j + 1 ≤ nChunks s n ↔ (j + 1) * n ≤ s.length + (n - 1) := Nat.le_div_iff_mul_le (by omega)
 rw [Nat.succ_mul] at h1
 omega
set_option maxHeartbeats 4000000 in
set_option maxRecDepth 8000 in
theorem impl_CutAll (s : Str) (n : Nat) (h1 : 1 ≤ n) (h2 : n ≤ 1000) (hs : s.length ≤ 1048576) : Snd Tryz.prog 65 [.str s, .int .i64 n] (.row 1 ((cutN s n (nChunks s n)).map cs)) [.unk, .unk] := Runs.snd (M := M) (c := ⟨2, [4, 5, 6, 12, 16], [], [(1, [0, 1, 4, 5, 12, 16])]⟩) tok ks mixed Tryz.func65 (p := []) (by kernel_rfl) (by rfl) (by rfl) <| by
 have g1 : ¬ (n : Int) < 1 := by omega
 have g2 : ¬ (1000 : Int) < n := by omega
 have hnc : nChunks s n ≤ s.length := by
  unfold nChunks
  rw [Nat.div_le_iff_le_mul (by omega)]
  have := Nat.mul_le_mul_right s.length h1
  rw [Nat.mul_comm n] at this
  omega
 obtain ⟨R, hR⟩ : ∃ R, R = nChunks s n := ⟨_, rfl⟩
 rw [← hR]
 (try simp -implicitDefEqProofs (disch := first | exact dd | fail) [Tryz.f65, g1, g2]); (repeat' ((with_reducible first | (refine Br.out ?_ ?_ <;> intro h <;> (try (have h0 := h; simp only [bH] at h))) | fail) <;> (try simp -implicitDefEqProofs (disch := first | exact dd | fail) [Tryz.f65, g1, g2])))
 refine AL_up (fun j => R - j) (fun j => [(0, .str (s.drop (j * n))), (5, .ref 640 none 1 0 j (some false))]) (fun j => [(640, .row 1 ((cutN s n j).map cs) [])]) (fun j => j ≤ R) 0 (by simp [cutN]) (Nat.zero_le _) ?_
 intro j m hj ih
 rcases Nat.lt_or_ge j R with hlt | hge
 ·have hlt2 := (nChunks_lt h1).1 (hR ▸ hlt)
  have hjj := ih (j + 1) hlt (by omega)
  rw [cutN_succ, Nat.succ_mul, ← List.drop_drop, chunk] at hjj
  have hl := cutN_len (s := s) (n := n) (k := j)
  have hSl : (s.drop (j * n)).length = s.length - j * n := List.length_drop
  generalize cutN s n j = C at *
  generalize s.drop (j * n) = S at *
  have ht := takeM (f := cs) hl
  simp only [List.map_append, List.map_cons, List.map_nil, cs] at hjj
  by_cases hk : S.length < n
  ·have e1 : S.take n = S := List.take_of_length_le (by omega)
   have e2 : S.drop n = [] := List.drop_of_length_le (by omega)
   rw [e1, e2] at hjj
   (try simp -implicitDefEqProofs (disch := first | exact dd | fail) [Tryz.f65, hk, hl, ht]); (repeat' ((with_reducible first | (refine Br.out ?_ ?_ <;> intro h <;> (try (have h0 := h; simp only [bH] at h))) | fail) <;> (try simp -implicitDefEqProofs (disch := first | exact dd | fail) [Tryz.f65, hk, hl, ht])))
   all_goals first | exact hjj
  ·have e3 : (S.drop n).take (S.length - n) = S.drop n := List.take_of_length_le (by simp)
   (try simp -implicitDefEqProofs (disch := first | exact dd | fail) [Tryz.f65, hk, hl, ht, e3]); (repeat' ((with_reducible first | (refine Br.out ?_ ?_ <;> intro h <;> (try (have h0 := h; simp only [bH] at h))) | fail) <;> (try simp -implicitDefEqProofs (disch := first | exact dd | fail) [Tryz.f65, hk, hl, ht, e3])))
   all_goals first | exact hjj
 ·obtain rfl : R = j := by omega
  have hn2 : ¬ R * n < s.length := fun h => by have := (nChunks_lt h1).2 h; omega
  have e : s.drop (R * n) = [] := List.drop_of_length_le (by omega)
  have hl := cutN_len (s := s) (n := n) (k := R)
  have ht := takeM (f := cs) hl
  rw [e]
  (try simp -implicitDefEqProofs (disch := first | exact dd | fail) [Tryz.f65, hl, ht]); (repeat' ((with_reducible first | (refine Br.out ?_ ?_ <;> intro h <;> (try (have h0 := h; simp only [bH] at h))) | fail) <;> (try simp -implicitDefEqProofs (disch := first | exact dd | fail) [Tryz.f65, hl, ht])))
end Go.Proofs.YtpofjodnljeegaaGreat
