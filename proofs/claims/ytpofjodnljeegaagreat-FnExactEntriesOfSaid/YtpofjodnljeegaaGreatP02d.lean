import Derived.Test.YtpofjodnljeegaaGreatP02a
import Derived.Test.YtpofjodnljeegaaGreatBx
namespace Go.Proofs.YtpofjodnljeegaaGreat
open Go.Fw
set_option linter.unusedVariables false
set_option linter.unusedSimpArgs false
theorem pow_facts {w : Nat} (h1 : 1 ≤ w) (h6 : w ≤ 6) : IntKind.u64.wrap (w : Int) = w ∧ IntKind.u64.wrap (8 * (w : Int)) = 8 * w ∧ IntKind.i64.wrap (2 ^ min (8 * (w : Int)).toNat IntKind.i64.bits) = ((256 ^ w : Nat) : Int) := by
 have h : w = 1 ∨ w = 2 ∨ w = 3 ∨ w = 4 ∨ w = 5 ∨ w = 6 := by omega
 rcases h with rfl | rfl | rfl | rfl | rfl | rfl <;> decide
theorem rep_cu (w : Nat) : List.replicate w [AV.int .u8 0] = (List.replicate w (0 : UInt8)).map cu := by simp
theorem putR_zero {K w : Nat} : putR K w 0 = List.replicate w 0 := by simp [putR, lowB]
theorem putR_full {K w : Nat} : putR K w w = lowB K w := by simp [putR]
theorem byte_of (n : Nat) : IntKind.u8.wrap (((n % 256 : Nat)) : Int) = ((UInt8.ofNat n).toNat : Nat) := by
 rw [wrap8_in (by omega) (by omega)]
 simp
set_option maxHeartbeats 4000000 in
set_option maxRecDepth 8000 in
theorem spec_PutNumber (k : Int) (w : Nat) (h1 : 1 ≤ w) (h6 : w ≤ 6) : Snd Tryz.prog 82 [.int .i64 k, .int .i64 w] (.str (putN k w)) [.unk, .unk] := Runs.snd (M := M) (c := ⟨2, [4, 5, 6, 21, 27], [], []⟩) tok ks mixed Tryz.func82 (p := []) (by kernel_rfl) (by rfl) (by rfl) <| by
 obtain ⟨u1, u2, u3⟩ := pow_facts h1 h6
 have g1 : (1 : Int) ≤ w := by omega
 have g6 : (w : Int) ≤ 6 := by omega
 have g8 : ¬ 8 * (w : Int) < 0 := by omega
 have gp : (0 : Int) ≤ w := by omega
 obtain ⟨R, hR⟩ : ∃ R, R = putN k w := ⟨_, rfl⟩
 rw [← hR]
 unfold putN at hR
 (try simp -implicitDefEqProofs (disch := first | exact dd | fail) [Tryz.f82, u1, u2, u3, g1, g6, g8, gp]); (repeat' ((with_reducible first | (refine Br.out ?_ ?_ <;> intro h <;> (try (have h0 := h; simp only [bH] at h))) | refine AC_snd (spec_l01In _ _ _) ?_ | fail) <;> (try simp -implicitDefEqProofs (disch := first | exact dd | fail) [Tryz.f82, u1, u2, u3, g1, g6, g8, gp])))
 ·rw [hR, if_neg (by omega)]
 ·rw [hR, if_neg (by omega)]
 obtain ⟨K, rfl⟩ := Int.eq_ofNat_of_zero_le (by omega : 0 ≤ k)
 have hR2 : R = lowB K w := by
  rw [hR, if_pos (by omega)]
  rfl
 subst hR2
 have hK : K < 281474976710656 := by
  have h3 : 256 ^ w ≤ 256 ^ 6 := Nat.pow_le_pow_right (by decide) h6
  have h4 : ((256 ^ w : Nat) : Int) = (256 : Int) ^ w := by simp
  omega
 refine AL_up (fun j => w - j) (fun j => [(0, .int .i64 (K / 256 ^ j : Nat)), (6, .int .i64 ((w : Int) - 1 - j))]) (fun j => [(640, .row 1 ((putR K w j).map cu) [])]) (fun j => j ≤ w) 0 (by simp [putR_zero]) (Nat.zero_le _) ?_
 intro j n hj ih
 rcases Nat.lt_or_ge j w with hlt | hge
 ·have hjj := ih (j + 1) hlt (by omega)
  have hs := putR_set (n := K) hlt
  rw [← hs, Nat.pow_succ, ← Nat.div_div_eq_div_mul] at hjj
  have hl := putR_len (n := K) (Nat.le_of_lt hlt)
  have hb : (((UInt8.ofNat (K / 256 ^ j)).toNat : Nat) : Int) = ((K / 256 ^ j : Nat) : Int) % 256 := by simp
  have hD : K / 256 ^ j ≤ K := Nat.div_le_self _ _
  generalize putR K w j = P at *
  generalize K / 256 ^ j = D at *
  have e1 : ((D / 256 : Nat) : Int) = (D : Int) / 256 := by omega
  have e2 : ((w : Int) - 1 - ((j + 1 : Nat) : Int)) = (w : Int) - 1 - j - 1 := by omega
  have e3 : ((w : Int) - 1 - j).toNat = w - 1 - j := by omega
  simp only [List.map_set, cu, hb, e1, e2] at hjj
  (try simp -implicitDefEqProofs (disch := first | exact dd | fail) [Tryz.f82, hl, e3]); (repeat' ((with_reducible first | (refine Br.out ?_ ?_ <;> intro h <;> (try (have h0 := h; simp only [bH] at h))) | fail) <;> (try simp -implicitDefEqProofs (disch := first | exact dd | fail) [Tryz.f82, hl, e3])))
  all_goals first | exact hjj
 ·obtain rfl : j = w := by omega
  rw [putR_full]
  have ht := takeM (f := cu) (lowB_len (n := K) (k := j))
  have hb := b2l (lowB K j)
  (try simp -implicitDefEqProofs (disch := first | exact dd | fail) [Tryz.f82, ht, hb]); (repeat' ((with_reducible first | (refine Br.out ?_ ?_ <;> intro h <;> (try (have h0 := h; simp only [bH] at h))) | fail) <;> (try simp -implicitDefEqProofs (disch := first | exact dd | fail) [Tryz.f82, ht, hb])))
end Go.Proofs.YtpofjodnljeegaaGreat
