import Derived.Test.YtiafmpcmmohdkaaP07c
namespace Go.Proofs.Ytiafmpcmmohdkaa
open Go.Fw
set_option linter.unusedVariables false
set_option linter.unusedSimpArgs false
end Go.Proofs.Ytiafmpcmmohdkaa
