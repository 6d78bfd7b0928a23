import Derived.Test.YtiafmpcmmohdkaaP07a
import Derived.Test.YtiafmpcmmohdkaaM11
import Derived.Test.YtiafmpcmmohdkaaBx
namespace Go.Proofs.Ytiafmpcmmohdkaa
open Go.Fw
set_option linter.unusedVariables false
set_option linter.unusedSimpArgs false
end Go.Proofs.Ytiafmpcmmohdkaa
