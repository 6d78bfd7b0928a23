/- Closed facts of the program alone, once for all rows of the seat. -/
import Derived.Test.YtombegncnofnbaaJ
import Derived.Test.YtombegncnofnbaaRows
import Derived.Test.YtombegncnofnbaaProg
import Derived.ChangeSame
import Derived.KernelRfl
namespace Go.Proofs.Ytombegncnofnbaa
open Go.Fw Go
set_option linter.unusedVariables false
theorem lift_of {a b:Bool} (h:b=false) (k:a=false):(a == b)=true:=by rw [h,k];rfl
theorem jp1:laidOutB Try.prog=true:=by kernel_rfl
theorem jp2:mapsRowed Try.prog=true:=by kernel_rfl
theorem jp24:Try.prog.stopsHeard=true:=by kernel_rfl
theorem jp25:Try.prog.mayEnter=true:=by kernel_rfl
theorem jp26:Try.prog.liftsFinal=false:=by kernel_rfl
end Go.Proofs.Ytombegncnofnbaa
