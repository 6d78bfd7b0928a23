import Derived.Test.YtpofjodnljeegaaGreatP07a
import Derived.Test.YtpofjodnljeegaaGreatM11
import Derived.Test.YtpofjodnljeegaaGreatBx
namespace Go.Proofs.YtpofjodnljeegaaGreat
open Go.Fw
set_option linter.unusedVariables false
set_option linter.unusedSimpArgs false
end Go.Proofs.YtpofjodnljeegaaGreat
