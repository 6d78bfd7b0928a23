import Derived.Test.YtpofjodnljeegaaGreatDat
import Derived.Test.YtpofjodnljeegaaGreatBase
namespace Go.Proofs.YtpofjodnljeegaaGreat
open Go.Fw
set_option linter.unusedVariables false
set_option linter.unusedSimpArgs false
end Go.Proofs.YtpofjodnljeegaaGreat
