import Derived.Test.YtfkkfhafijgdaaaMA
import Derived.Test.YtfkkfhafijgdaaaP08
import Derived.Test.YtfkkfhafijgdaaaP14
import Derived.Test.YtfkkfhafijgdaaaP12
namespace Go.Proofs.Ytfkkfhafijgdaaa
open Go.Fw
set_option linter.unusedVariables false
set_option linter.unusedSimpArgs false
set_option maxHeartbeats 1000000
set_option maxRecDepth 8000
def mvT (D:List Str) (b:Int):Str:=if b = -1 then [] else D.getD b.toNat []
end Go.Proofs.Ytfkkfhafijgdaaa
