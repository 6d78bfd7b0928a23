import Derived.Test.YtpofjodnljeegaaGreatLibE
import Derived.Test.YtpofjodnljeegaaGreatP05a
namespace Go.Proofs.YtpofjodnljeegaaGreat
open Go.Fw
set_option linter.unusedVariables false
set_option linter.unusedSimpArgs false
def nameOk (l : Str) : Bool := decide (1 ≤ l.length) && decide (l.length ≤ 12) && !Lib.containsAny l [0, 47] && !decide (l = [46]) && !decide (l = [46, 46])
theorem ascii2 : ∀ (j : Nat) (b : UInt8), ([0, 47] : Str)[j]? = some b → b.toNat < 128
 | 0, b, h => by cases h; decide
 | 1, b, h => by cases h; decide
 | k + 2, b, h => by simp at h
set_option maxHeartbeats 4000000 in
set_option maxRecDepth 8000 in
theorem impl_IsEntryName (l : Str) (hl : l.length ≤ 1048576) : Snd Tryz.prog 68 [.str l] (.bool (nameOk l)) [.unk] := Runs.snd (M := M) (c := ⟨1, [2], [], []⟩) tok ks mixed Tryz.func68 (p := []) (by kernel_rfl) (by rfl) (by rfl) <| by
 unfold nameOk
 (try simp -implicitDefEqProofs (disch := first | exact dd | fail) [Tryz.f68]); (repeat' ((with_reducible first | (refine Br.out ?_ ?_ <;> intro h <;> (try (have h0 := h; simp only [bH] at h))) | refine AC_snd (strings_ContainsAny l [0, 47] (by omega) rfl ascii2) ?_ | fail) <;> (try simp -implicitDefEqProofs (disch := first | exact dd | fail) [Tryz.f68])))
 all_goals grind
end Go.Proofs.YtpofjodnljeegaaGreat
