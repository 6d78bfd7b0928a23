import Derived.Test.YtpofjodnljeegaaGreatP02b
import Derived.Test.YtpofjodnljeegaaGreatLibB
namespace Go.Proofs.YtpofjodnljeegaaGreat
open Go.Fw
set_option linter.unusedVariables false
set_option linter.unusedSimpArgs false
theorem rep1 : ∀ c : Nat, Lib.repeatL [0] c = List.replicate c (0 : UInt8)
 | 0 => rfl
 | c + 1 => by rw [Lib.repeatL, rep1 c, List.replicate_succ]; rfl
set_option maxHeartbeats 4000000 in
set_option maxRecDepth 8000 in
theorem impl_PadTo (s : Str) (k : Nat) (hk : k ≤ 100000) (hl : s.length ≤ 1048576) : Snd Tryz.prog 95 [.str s, .int .i64 k] (.str (padTo s k)) [.unk, .unk] := Runs.snd (M := M) (c := ⟨2, [4, 5, 11], [], []⟩) tok ks mixed Tryz.func95 (p := []) (by kernel_rfl) (by rfl) (by rfl) <| by
 have h1 : ¬ (100000 : Int) < k := by omega
 have hc := strings_Repeat [0] (k - s.length) (by omega) (by decide)
 rw [rep1] at hc
 rcases Nat.lt_or_ge s.length k with h | h
 ·have h2 : ¬ ((k : Int) ≤ s.length) := by omega
  have e : ((k - s.length : Nat) : Int) = (k : Int) - s.length := by omega
  rw [e] at hc
  have hle : s.length + (List.replicate (k - s.length) (0 : UInt8)).length ≤ 1073741824 := by simp; omega
  unfold padTo
  (try simp -implicitDefEqProofs (disch := first | exact dd | fail) [Tryz.f95, h1, h2, hle]); (repeat' ((with_reducible first | (refine Br.out ?_ ?_ <;> intro h <;> (try (have h0 := h; simp only [bH] at h))) | refine AC_snd (hc) ?_ | fail) <;> (try simp -implicitDefEqProofs (disch := first | exact dd | fail) [Tryz.f95, h1, h2, hle])))
 ·have h2 : ((k : Int) ≤ s.length) := by omega
  have e : padTo s k = s := by simp [padTo, Nat.sub_eq_zero_of_le h]
  rw [e]
  (try simp -implicitDefEqProofs (disch := first | exact dd | fail) [Tryz.f95, h1, h2]); (repeat' ((with_reducible first | (refine Br.out ?_ ?_ <;> intro h <;> (try (have h0 := h; simp only [bH] at h))) | fail) <;> (try simp -implicitDefEqProofs (disch := first | exact dd | fail) [Tryz.f95, h1, h2])))
end Go.Proofs.YtpofjodnljeegaaGreat
