/- Plain facts: single bits of numbers. -/
import Derived.Test.YtgopfdninbknpaaGreatM11
namespace Go.Fw
set_option linter.unusedVariables false
theorem nat_and_pow (n k : Nat) : n &&& 2 ^ k = 2 ^ k * (n / 2 ^ k % 2) := by
 apply Nat.eq_of_testBit_eq
 intro i
 rw [Nat.testBit_and, Nat.testBit_two_pow, Nat.testBit_two_pow_mul]
 by_cases h : k = i
 ·subst h
  simp [Nat.testBit, Nat.shiftRight_eq_div_pow]
 ·have h2 : (n / 2 ^ k % 2).testBit (i - k) = false ∨ ¬ i ≥ k := by
   by_cases h3 : i ≥ k
   ·left
    have h4 : i - k ≠ 0 := by omega
    obtain ⟨j, hj⟩ := Nat.exists_eq_succ_of_ne_zero h4
    rw [hj]
    rcases Nat.mod_two_eq_zero_or_one (n / 2 ^ k) with h1 | h1 <;> simp [h1, Nat.testBit_succ]
   ·exact .inr h3
  rcases h2 with h2 | h2 <;> simp [h, h2]
theorem and_split64 (x y : BitVec 64) : (x &&& y).toNat + (x &&& ~~~y).toNat = x.toNat := by
 have h : (x &&& y) + (x &&& ~~~y) = x := by
  have h0 : (x &&& y) &&& (x &&& ~~~y) = 0#64 := by
   ext i hi
   simp only [BitVec.getElem_and, BitVec.getElem_not, BitVec.getElem_zero]
   cases x[i] <;> cases y[i] <;> rfl
  rw [BitVec.add_eq_or_of_and_eq_zero _ _ h0]
  ext i hi
  simp only [BitVec.getElem_or, BitVec.getElem_and, BitVec.getElem_not]
  cases x[i] <;> cases y[i] <;> rfl
 have h1 := congrArg BitVec.toNat h
 rw [BitVec.toNat_add] at h1
 have h2 : (x &&& y).toNat ≤ x.toNat := by rw [BitVec.toNat_and]; exact Nat.and_le_left
 have h3 := (x &&& ~~~y).isLt
 have h4 := x.isLt
 have h5 := (x &&& y).isLt
 omega
theorem ofInt_toNat {m : Int} (h1 : -9223372036854775808 ≤ m) (h2 : m < 9223372036854775808) : (BitVec.ofInt 64 m).toNat = if 0 ≤ m then m.toNat else (m + 18446744073709551616).toNat := by
 rw [BitVec.toNat_ofInt]
 split <;> omega
theorem wrapN {n : Nat} (h : n < 18446744073709551616) : IntKind.wrap .i64 (n : Int) = if n < 9223372036854775808 then (n : Int) else (n : Int) - 18446744073709551616 := by
 simp only [IntKind.wrap, IntKind.signed, IntKind.bits]
 by_cases h' : n < 9223372036854775808
 ·rw [if_pos h']
  simp
  omega
 ·rw [if_neg h']
  simp
  omega
theorem iAnd_pow {m : Int} {k : Nat} (hk : k < 63) (h1 : -9223372036854775808 ≤ m) (h2 : m < 9223372036854775808) : iAnd m ((2 ^ k : Nat) : Int) = ((2 ^ k * ((BitVec.ofInt 64 m).toNat / 2 ^ k % 2) : Nat) : Int) := by
 have hp : 2 ^ k < 2 ^ 63 := Nat.pow_lt_pow_right (by omega) hk
 unfold iAnd
 rw [BitVec.toNat_and, BitVec.ofInt_natCast, BitVec.toNat_ofNat, Nat.mod_eq_of_lt (by omega), nat_and_pow]
 have : 2 ^ k * ((BitVec.ofInt 64 m).toNat / 2 ^ k % 2) ≤ 2 ^ k * 1 := Nat.mul_le_mul_left _ (by omega)
 rw [wrapN (by omega), if_pos (by omega)]
theorem iAnd_512 {m : Int} (h1 : -9223372036854775808 ≤ m) (h2 : m < 9223372036854775808) : iAnd m 512 = 512 * (m / 512 % 2) := by
 have h := iAnd_pow (k := 9) (by decide) h1 h2
 rw [ofInt_toNat h1 h2] at h
 rw [show (512 : Int) = ((2 ^ 9 : Nat) : Int) from rfl, h]
 split <;> omega
theorem iAndNot_1024 {m : Int} (h1 : -9223372036854775808 ≤ m) (h2 : m < 9223372036854775808) : iAndNot m 1024 = m - 1024 * (m / 1024 % 2) := by
 have hs := and_split64 (BitVec.ofInt 64 m) (BitVec.ofInt 64 1024)
 have ha : (BitVec.ofInt 64 m &&& BitVec.ofInt 64 1024).toNat = 2 ^ 10 * ((BitVec.ofInt 64 m).toNat / 2 ^ 10 % 2) := by
  rw [BitVec.toNat_and, show (BitVec.ofInt 64 1024).toNat = 2 ^ 10 from by decide, nat_and_pow]
 unfold iAndNot
 have hx := ofInt_toNat h1 h2
 have hlt := (BitVec.ofInt 64 m).isLt
 generalize (BitVec.ofInt 64 m &&& ~~~BitVec.ofInt 64 1024).toNat = b at *
 rw [wrapN (by omega)]
 split at hx <;> split <;> omega
theorem mode_clear {m : Int} (h1 : -9223372036854775808 ≤ m) (h2 : m < 9223372036854775808) : (IsMode (iAndNot m 1024) ↔ IsMode m) ∧ (iAnd (iAndNot m 1024) 512 = 0 ↔ iAnd m 512 = 0) := by
 have e := iAndNot_1024 h1 h2
 constructor
 ·rw [e]
  show (0 ≤ _ ∧ _ ≤ 2047) ↔ (0 ≤ m ∧ m ≤ 2047)
  omega
 ·rw [iAnd_512 (by omega) (by omega), iAnd_512 h1 h2, e]
  omega
theorem isInode_mode {n : DInode} {m : Int} (h1 : -9223372036854775808 ≤ m) (h2 : m < 9223372036854775808) (hk : ¬ n.kind = 0) : isInode { n with mode := iAndNot m 1024 } = isInode { n with mode := m } := by
 have h := mode_clear h1 h2
 rw [Bool.eq_iff_iff, tr_iff, tr_iff, isInode_ok (n := { n with mode := iAndNot m 1024 }) hk, isInode_ok (n := { n with mode := m }) hk]
 constructor
 ·intro H
  exact ⟨H.kind, h.1.1 H.mode, H.uid, H.gid, H.links, H.size, H.tick, H.blocks, H.blk, H.acl, H.dflt, H.file.imp id fun h3 => ⟨h3.1, h.2.1 h3.2⟩⟩
 ·intro H
  exact ⟨H.kind, h.1.2 H.mode, H.uid, H.gid, H.links, H.size, H.tick, H.blocks, H.blk, H.acl, H.dflt, H.file.imp id fun h3 => ⟨h3.1, h.2.2 h3.2⟩⟩
end Go.Fw
