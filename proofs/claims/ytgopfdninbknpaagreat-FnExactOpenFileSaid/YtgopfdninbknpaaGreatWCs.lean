/- Sizes of systems. -/
import Derived.Test.YtgopfdninbknpaaGreatWC
import Derived.Test.YtgopfdninbknpaaGreatLSystem
namespace Go.Proofs.YtgopfdninbknpaaGreat
open Go.Fw
set_option linter.unusedVariables false
theorem smP {x:DProc} (h:SmProc x):SmP x:=⟨h.hs_cred.hl_groups,h.hl_files⟩
theorem smS {x:DSystem} (h:SmSystem x):SmS x:=⟨smF h.hs_fs,h.hl_procs,fun n hn=>smP (h.hx_procs n hn)⟩
end Go.Proofs.YtgopfdninbknpaaGreat
