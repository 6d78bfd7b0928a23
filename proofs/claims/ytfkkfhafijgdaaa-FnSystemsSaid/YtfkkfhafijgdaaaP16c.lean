import Derived.Test.YtfkkfhafijgdaaaP12
import Derived.Test.YtfkkfhafijgdaaaM16
namespace Go.Proofs.Ytfkkfhafijgdaaa
open Go.Fw
set_option linter.unusedVariables false
set_option linter.unusedSimpArgs false
end Go.Proofs.Ytfkkfhafijgdaaa
