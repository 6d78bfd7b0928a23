import Derived.Test.YtiafmpcmmohdkaaDat
import Derived.Test.YtiafmpcmmohdkaaBase
namespace Go.Proofs.Ytiafmpcmmohdkaa
open Go.Fw
set_option linter.unusedVariables false
set_option linter.unusedSimpArgs false
end Go.Proofs.Ytiafmpcmmohdkaa
