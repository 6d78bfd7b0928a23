import Derived.Test.YtgopfdninbknpaaGreatDat
import Derived.Test.YtgopfdninbknpaaGreatBase
namespace Go.Proofs.YtgopfdninbknpaaGreat
open Go.Fw
set_option linter.unusedVariables false
set_option linter.unusedSimpArgs false
set_option maxHeartbeats 4000000 in
theorem slices_CloneStr (n:Option Bool) (xs:List Str) (hl:xs.length≤1048576):Snd Tryz.prog 157 [.frz 1 n (xs.map cs)] (.row 1 (xs.map cs)) [.unk]:=by
 have hl':xs.length≤LIM:=by unfold LIM;omega
 refine Snd.frz_cases (pre := []) (post := []) (fun e => ?_) (?_)
 ·obtain rfl:xs = []:=by simpa using e
  exact Runs.snd (M:=M) (c:=⟨1,[2,4],[],[]⟩) tok ks mixed Tryz.func157 (p := []) (by kernel_rfl) (by rfl) (by rfl) <| by
   simp -implicitDefEqProofs (disch:=first|exact dd|fail)[Tryz.f157,ABr,AGd]
 ·exact Runs.snd (M:=M) (c:=⟨1,[2,4],[],[]⟩) tok ks mixed Tryz.func157 (p := []) (by kernel_rfl) (by rfl) (by rfl) <| by
   simp -implicitDefEqProofs (disch:=first|exact dd|fail)[Tryz.f157,hl',ABr,AGd]
end Go.Proofs.YtgopfdninbknpaaGreat
