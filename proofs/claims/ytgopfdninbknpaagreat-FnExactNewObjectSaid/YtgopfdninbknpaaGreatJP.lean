/- Closed facts of the program alone, once for all rows of the seat. -/
import Derived.Test.YtgopfdninbknpaaGreatJ
import Derived.Test.YtgopfdninbknpaaGreatRows
import Derived.Test.YtgopfdninbknpaaGreatProg
import Derived.ChangeSame
import Derived.KernelRfl
namespace Go.Proofs.YtgopfdninbknpaaGreat
open Go.Fw Go
set_option linter.unusedVariables false
theorem lift_of {a b : Bool} (h : b = false) (k : a = false) : (a == b) = true := by rw [h, k]; rfl
theorem jp1 : laidOutB Tryz.prog = true := by kernel_rfl
theorem jp2 : mapsRowed Tryz.prog = true := by kernel_rfl
theorem jp24 : Tryz.prog.stopsHeard = true := by kernel_rfl
theorem jp25 : Tryz.prog.mayEnter = true := by kernel_rfl
theorem jp26 : Tryz.prog.liftsFinal = false := by kernel_rfl
end Go.Proofs.YtgopfdninbknpaaGreat
