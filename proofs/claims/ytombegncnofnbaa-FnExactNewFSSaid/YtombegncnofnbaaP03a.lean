import Derived.Test.YtombegncnofnbaaDat
import Derived.Test.YtombegncnofnbaaBase
namespace Go.Proofs.Ytombegncnofnbaa
open Go.Fw
set_option linter.unusedVariables false
set_option linter.unusedSimpArgs false
end Go.Proofs.Ytombegncnofnbaa
