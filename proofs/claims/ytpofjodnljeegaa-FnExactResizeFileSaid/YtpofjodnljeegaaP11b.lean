import Derived.Test.YtpofjodnljeegaaP11a
import Derived.Test.YtpofjodnljeegaaP08a
import Derived.Test.YtpofjodnljeegaaP06c
namespace Go.Proofs.Ytpofjodnljeegaa
open Go.Fw
set_option linter.unusedVariables false
set_option linter.unusedSimpArgs false
def newOwner (f : DFS) (c : DCred) (d : Int) : Int × Int := if iAnd (inodeAt f d).mode 1024 = 0 then (c.uid, c.gid) else (c.uid, (inodeAt f d).gid)
noncomputable def dirCode (f : DFS) (i : Int) : Int := if isFS f && hasI f i then if isDirI f i then 0 else 5 else 1
end Go.Proofs.Ytpofjodnljeegaa
