import Derived.Test.YtiafmpcmmohdkaaP05b
import Derived.Test.YtiafmpcmmohdkaaMA
import Derived.Test.YtiafmpcmmohdkaaBx
import Derived.Test.YtiafmpcmmohdkaaP05a
import Derived.Test.YtiafmpcmmohdkaaM11
import Derived.Test.YtiafmpcmmohdkaaLibB
namespace Go.Proofs.Ytiafmpcmmohdkaa
open Go.Fw
set_option linter.unusedVariables false
set_option linter.unusedSimpArgs false
set_option maxHeartbeats 1000000
set_option maxRecDepth 8000
theorem padTo_step {s : Str} {i : Nat} (h : s.length ≤ i) : padTo s (i + 1) = padTo s i ++ [0] := by
 rw [padTo, padTo, Nat.succ_sub h, List.replicate_succ', List.append_assoc]
theorem wrap_or {a b : Int} : IntKind.wrap .i64 (((a % 2 ^ IntKind.bits .i64).toNat ||| (b % 2 ^ IntKind.bits .i64).toNat : Nat)) = iOr a b := by
 unfold iOr
 rw [BitVec.toNat_or, BitVec.toNat_ofInt, BitVec.toNat_ofInt]
 rfl
theorem iOr_byte {V : Int} {u : Nat} (h0 : 0 ≤ V) (h1 : V < 1099511627776) (hu : u < 256) : iOr (V * 256) u = V * 256 + u := by
 obtain ⟨n, rfl⟩ := Int.eq_ofNat_of_zero_le h0
 have e1 : ((n : Int) * 256) = ((n * 256 : Nat) : Int) := by simp
 have h2 : n * 256 < 2 ^ 64 := by omega
 have h3 : u < 2 ^ 64 := by omega
 rw [iOr, e1, BitVec.ofInt_natCast, BitVec.ofInt_natCast, BitVec.toNat_or, BitVec.toNat_ofNat, BitVec.toNat_ofNat, Nat.mod_eq_of_lt h2, Nat.mod_eq_of_lt h3]
 have h4 : n * 256 ||| u = n * 256 + u := by
  have := Nat.shiftLeft_add_eq_or_of_lt (i := 8) (b := u) (by omega) n
  rw [Nat.shiftLeft_eq] at this
  exact this.symm
 rw [h4]
 exact wrap64_in (by omega) (by omega)
theorem pow_facts {w : Nat} (h1 : 1 ≤ w) (h6 : w ≤ 6) : IntKind.u64.wrap (w : Int) = w ∧ IntKind.u64.wrap (8 * (w : Int)) = 8 * w ∧ IntKind.i64.wrap (2 ^ min (8 * (w : Int)).toNat IntKind.i64.bits) = ((256 ^ w : Nat) : Int) := by
 have h : w = 1 ∨ w = 2 ∨ w = 3 ∨ w = 4 ∨ w = 5 ∨ w = 6 := by omega
 rcases h with rfl | rfl | rfl | rfl | rfl | rfl <;> decide
theorem rep_cu (w : Nat) : List.replicate w [AV.int .u8 0] = (List.replicate w (0 : UInt8)).map cu := by simp
theorem putR_zero {K w : Nat} : putR K w 0 = List.replicate w 0 := by simp [putR, lowB]
theorem putR_full {K w : Nat} : putR K w w = lowB K w := by simp [putR]
theorem byte_of (n : Nat) : IntKind.u8.wrap (((n % 256 : Nat)) : Int) = ((UInt8.ofNat n).toNat : Nat) := by
 rw [wrap8_in (by omega) (by omega)]
 simp
theorem pow_facts2 {w : Nat} (h1 : 1 ≤ w) (h6 : w ≤ 6) : IntKind.i64.wrap (8 * (w : Int)) = 8 * w ∧ IntKind.i64.wrap (2 ^ min (8 * (w : Int)).toNat IntKind.i64.bits) = ((256 ^ w : Nat) : Int) := by
 have h : w = 1 ∨ w = 2 ∨ w = 3 ∨ w = 4 ∨ w = 5 ∨ w = 6 := by omega
 rcases h with rfl | rfl | rfl | rfl | rfl | rfl <;> decide
theorem rep1 : ∀ c : Nat, Lib.repeatL [0] c = List.replicate c (0 : UInt8)
 | 0 => rfl
 | c + 1 => by rw [Lib.repeatL, rep1 c, List.replicate_succ]; rfl
end Go.Proofs.Ytiafmpcmmohdkaa
