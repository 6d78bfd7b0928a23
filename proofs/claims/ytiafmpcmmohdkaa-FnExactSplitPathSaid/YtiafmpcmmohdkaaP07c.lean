import Derived.Test.YtiafmpcmmohdkaaP07b
import Derived.Test.YtiafmpcmmohdkaaP06
namespace Go.Proofs.Ytiafmpcmmohdkaa
open Go.Fw
set_option linter.unusedVariables false
set_option linter.unusedSimpArgs false
end Go.Proofs.Ytiafmpcmmohdkaa
