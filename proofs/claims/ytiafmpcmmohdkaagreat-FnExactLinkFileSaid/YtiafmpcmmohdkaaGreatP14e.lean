import Derived.Test.YtiafmpcmmohdkaaGreatP14d
import Derived.Test.YtiafmpcmmohdkaaGreatP12
namespace Go.Proofs.YtiafmpcmmohdkaaGreat
open Go.Fw
set_option linter.unusedVariables false
set_option linter.unusedSimpArgs false
set_option maxHeartbeats 4000000
set_option maxRecDepth 8000
noncomputable def writeB (f : DFS) (i a : Int) (s : Str) : DFS × Int := if isFS f && hasI f i then (if (writeF f i a s).2 = 0 then (writeF f i a s).1 else f, (writeF f i a s).2) else (f, 1)
end Go.Proofs.YtiafmpcmmohdkaaGreat
