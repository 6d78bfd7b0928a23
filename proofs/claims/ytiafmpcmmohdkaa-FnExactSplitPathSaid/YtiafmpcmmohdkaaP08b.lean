import Derived.Test.YtiafmpcmmohdkaaP07d
import Derived.Test.YtiafmpcmmohdkaaBx
import Derived.Test.YtiafmpcmmohdkaaM11
namespace Go.Proofs.Ytiafmpcmmohdkaa
open Go.Fw
set_option linter.unusedVariables false
set_option linter.unusedSimpArgs false
end Go.Proofs.Ytiafmpcmmohdkaa
