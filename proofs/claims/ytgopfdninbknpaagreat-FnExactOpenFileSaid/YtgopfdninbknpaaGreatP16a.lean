import Derived.Test.YtgopfdninbknpaaGreatP07
namespace Go.Proofs.YtgopfdninbknpaaGreat
open Go.Fw
set_option linter.unusedVariables false
set_option linter.unusedSimpArgs false
abbrev fProc (a b:Option Bool) (p:DProc):AV := .agg [.int .i64 p.cred.uid, .int .i64 p.cred.gid, .frz 1 a (p.cred.groups.map ci), .frz 3 b (p.files.map cOpen)]
end Go.Proofs.YtgopfdninbknpaaGreat
