import Derived.Test.YtiafmpcmmohdkaaP07a
import Derived.Test.YtiafmpcmmohdkaaP05b
namespace Go.Proofs.Ytiafmpcmmohdkaa
open Go.Fw
set_option linter.unusedVariables false
set_option linter.unusedSimpArgs false
theorem fs_eq {a b : DFS} : a = b ↔ a.tick = b.tick ∧ a.quotas = b.quotas ∧ a.inodes = b.inodes ∧ a.data = b.data := by
 obtain ⟨a1, a2, a3, a4⟩ := a
 obtain ⟨b1, b2, b3, b4⟩ := b
 simp
theorem list_ne {α : Type} {xs ys : List α} {i : Nat} (h1 : i < xs.length) (h2 : i < ys.length) (h : ¬ xs[i] = ys[i]) : ¬ xs = ys := by
 rintro rfl
 exact h rfl
end Go.Proofs.Ytiafmpcmmohdkaa
