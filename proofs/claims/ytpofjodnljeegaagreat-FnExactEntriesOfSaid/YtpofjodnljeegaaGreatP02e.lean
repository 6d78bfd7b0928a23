import Derived.Test.YtpofjodnljeegaaGreatP02d
namespace Go.Proofs.YtpofjodnljeegaaGreat
open Go.Fw
set_option linter.unusedVariables false
set_option linter.unusedSimpArgs false
theorem pow_facts2 {w : Nat} (h1 : 1 ≤ w) (h6 : w ≤ 6) : IntKind.i64.wrap (8 * (w : Int)) = 8 * w ∧ IntKind.i64.wrap (2 ^ min (8 * (w : Int)).toNat IntKind.i64.bits) = ((256 ^ w : Nat) : Int) := by
 have h : w = 1 ∨ w = 2 ∨ w = 3 ∨ w = 4 ∨ w = 5 ∨ w = 6 := by omega
 rcases h with rfl | rfl | rfl | rfl | rfl | rfl <;> decide
set_option maxHeartbeats 4000000 in
set_option maxRecDepth 8000 in
theorem impl_PutNumber (k : Int) (w : Nat) (h1 : 1 ≤ w) (h6 : w ≤ 6) : Snd Tryz.prog 96 [.int .i64 k, .int .i64 w] (.str (putN k w)) [.unk, .unk] := Runs.snd (M := M) (c := ⟨2, [4, 5, 6, 23, 29], [], []⟩) tok ks mixed Tryz.func96 (p := []) (by kernel_rfl) (by rfl) (by rfl) <| by
 obtain ⟨u2, u3⟩ := pow_facts2 h1 h6
 have g1 : (1 : Int) ≤ w := by omega
 have g6 : (w : Int) ≤ 6 := by omega
 have g8 : ¬ 8 * (w : Int) < 0 := by omega
 have gp : (0 : Int) ≤ w := by omega
 obtain ⟨R, hR⟩ : ∃ R, R = putN k w := ⟨_, rfl⟩
 rw [← hR]
 unfold putN at hR
 (try simp -implicitDefEqProofs (disch := first | exact dd | fail) [Tryz.f96, u2, u3, g1, g6, g8, gp]); (repeat' ((with_reducible first | (refine Br.out ?_ ?_ <;> intro h <;> (try (have h0 := h; simp only [bH] at h))) | fail) <;> (try simp -implicitDefEqProofs (disch := first | exact dd | fail) [Tryz.f96, u2, u3, g1, g6, g8, gp])))
 ·rw [hR, if_neg (by omega)]
 ·rw [hR, if_neg (by omega)]
 obtain ⟨K, rfl⟩ := Int.eq_ofNat_of_zero_le (by omega : 0 ≤ k)
 have hR2 : R = lowB K w := by
  rw [hR, if_pos (by omega)]
  rfl
 subst hR2
 have hK : K < 281474976710656 := by
  have h3 : 256 ^ w ≤ 256 ^ 6 := Nat.pow_le_pow_right (by decide) h6
  have h4 : ((256 ^ w : Nat) : Int) = (256 : Int) ^ w := by simp
  omega
 refine AL_up (fun j => w - j) (fun j => [(0, .int .i64 (K / 256 ^ j : Nat)), (6, .int .i64 ((w : Int) - 1 - j))]) (fun j => [(640, .row 1 ((putR K w j).map cu) [])]) (fun j => j ≤ w) 0 (by simp [putR_zero]) (Nat.zero_le _) ?_
 intro j n hj ih
 rcases Nat.lt_or_ge j w with hlt | hge
 ·have hjj := ih (j + 1) hlt (by omega)
  have hs := putR_set (n := K) hlt
  rw [← hs, Nat.pow_succ, ← Nat.div_div_eq_div_mul] at hjj
  have hl := putR_len (n := K) (Nat.le_of_lt hlt)
  have hb : (((UInt8.ofNat (K / 256 ^ j)).toNat : Nat) : Int) = ((K / 256 ^ j : Nat) : Int) % 256 := by simp
  have hD : K / 256 ^ j ≤ K := Nat.div_le_self _ _
  generalize putR K w j = P at *
  generalize K / 256 ^ j = D at *
  have e1 : ((D / 256 : Nat) : Int) = (D : Int) / 256 := by omega
  have e0 : IntKind.u8.wrap (D : Int) = (D : Int) % 256 := by simp [IntKind.wrap, IntKind.signed, IntKind.bits]
  have e5 : (D : Int).fdiv (2 ^ min 8 IntKind.i64.bits) = (D : Int) / 256 := by
   rw [Int.fdiv_eq_ediv_of_nonneg _ (by decide)]
   rfl
  have e2 : ((w : Int) - 1 - ((j + 1 : Nat) : Int)) = (w : Int) - 1 - j - 1 := by omega
  have e3 : ((w : Int) - 1 - j).toNat = w - 1 - j := by omega
  simp only [List.map_set, cu, hb, e1, e2] at hjj
  (try simp -implicitDefEqProofs (disch := first | exact dd | fail) [Tryz.f96, hl, e3, e0, e5]); (repeat' ((with_reducible first | (refine Br.out ?_ ?_ <;> intro h <;> (try (have h0 := h; simp only [bH] at h))) | fail) <;> (try simp -implicitDefEqProofs (disch := first | exact dd | fail) [Tryz.f96, hl, e3, e0, e5])))
  all_goals first | exact hjj
 ·obtain rfl : j = w := by omega
  rw [putR_full]
  have ht := takeM (f := cu) (lowB_len (n := K) (k := j))
  have hb := b2l (lowB K j)
  (try simp -implicitDefEqProofs (disch := first | exact dd | fail) [Tryz.f96, ht, hb]); (repeat' ((with_reducible first | (refine Br.out ?_ ?_ <;> intro h <;> (try (have h0 := h; simp only [bH] at h))) | fail) <;> (try simp -implicitDefEqProofs (disch := first | exact dd | fail) [Tryz.f96, ht, hb])))
end Go.Proofs.YtpofjodnljeegaaGreat
