import Derived.Test.YtiafmpcmmohdkaaP05a
import Derived.Test.YtiafmpcmmohdkaaBx
namespace Go.Proofs.Ytiafmpcmmohdkaa
open Go.Fw
set_option linter.unusedVariables false
set_option linter.unusedSimpArgs false
def cmpOr (a b : Int) : Int := if a = 0 then b else a
theorem cmp_ge {a b c d : Int} : (0 ≤ cmpOr (cmpI a b) (cmpI c d)) ↔ ¬ (a < b ∨ a = b ∧ c < d) := by
 unfold cmpOr cmpI
 repeat' split
 all_goals omega
end Go.Proofs.Ytiafmpcmmohdkaa
