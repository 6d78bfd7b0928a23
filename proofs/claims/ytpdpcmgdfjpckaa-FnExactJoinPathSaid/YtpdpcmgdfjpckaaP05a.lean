import Derived.Test.YtpdpcmgdfjpckaaDat
import Derived.Test.YtpdpcmgdfjpckaaBase
import Derived.Test.YtpdpcmgdfjpckaaM11
namespace Go.Proofs.Ytpdpcmgdfjpckaa
open Go.Fw
set_option linter.unusedVariables false
set_option linter.unusedSimpArgs false
def cmpI (a b:Int):Int:=if a < b then -1 else if a > b then 1 else 0
end Go.Proofs.Ytpdpcmgdfjpckaa
