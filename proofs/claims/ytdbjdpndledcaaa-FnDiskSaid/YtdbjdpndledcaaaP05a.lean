import Derived.Test.YtdbjdpndledcaaaDat
import Derived.Test.YtdbjdpndledcaaaBase
import Derived.Test.YtdbjdpndledcaaaM11
namespace Go.Proofs.Ytdbjdpndledcaaa
open Go.Fw
set_option linter.unusedVariables false
set_option linter.unusedSimpArgs false
set_option maxHeartbeats 1000000 in
theorem spec_l01In (n a b:Int):Snd Try.prog 31 [.int .i64 n, .int .i64 a, .int .i64 b] (.bool (decide (a≤n) && decide (n≤b))) [.unk, .unk, .unk]:=Runs.snd (M:=M) (c:=⟨3,[6],[],[]⟩) tok ks mixed Try.func31 (p := []) (by kernel_rfl) (by rfl) (by rfl) <| by
 by_cases h:n ≥ a
 ·have h':a≤n:=h
  simp -implicitDefEqProofs (disch:=first|exact dd|fail)[Try.f31,h,h',ABr,AGd]
 ·have h':¬ a≤n:=h
  simp -implicitDefEqProofs (disch:=first|exact dd|fail)[Try.f31,h,h',ABr,AGd]
def cmpI (a b:Int):Int:=if a < b then -1 else if a > b then 1 else 0
end Go.Proofs.Ytdbjdpndledcaaa
