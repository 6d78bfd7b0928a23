import Derived.Test.YtgopfdninbknpaaGreatP16b
import Derived.Test.YtgopfdninbknpaaGreatP16c
namespace Go.Proofs.YtgopfdninbknpaaGreat
open Go.Fw
set_option linter.unusedVariables false
set_option linter.unusedSimpArgs false
set_option maxHeartbeats 4000000
set_option maxRecDepth 8000
noncomputable def busyI (s:DSystem):List Int:=if isSystem s then busyT s.procs 20 else []
end Go.Proofs.YtgopfdninbknpaaGreat
