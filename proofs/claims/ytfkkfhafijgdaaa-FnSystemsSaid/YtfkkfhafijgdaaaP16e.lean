import Derived.Test.YtfkkfhafijgdaaaP16d
import Derived.Test.YtfkkfhafijgdaaaP16a
import Derived.Test.YtfkkfhafijgdaaaP08
import Derived.Test.YtfkkfhafijgdaaaP06
import Derived.Test.YtfkkfhafijgdaaaM32
namespace Go.Proofs.Ytfkkfhafijgdaaa
open Go.Fw
set_option linter.unusedVariables false
set_option linter.unusedSimpArgs false
set_option maxHeartbeats 1000000
set_option maxRecDepth 8000
theorem impl_copyCred (n1:Option Bool) (c:DCred) (hc:c.groups.length≤1048576):Snd Try.prog 49 [fCred n1 c] (rCred c) [.unk]:=Runs.snd (M:=M) (c:=⟨1,[1,2],[],[]⟩) tok ks mixed Try.func49 (p := []) (by kernel_rfl) (by rfl) (by rfl) <| by
 (try simp -implicitDefEqProofs (disch:=first|exact dd|fail)[Try.f49]);(repeat'((with_reducible first|(refine Br.out ?_ ?_<;>intro h<;>(try(have h0:=h;simp only[bH]at h)))|refine AC_snd (slices_CloneInt _ c.groups hc) ?_|fail)<;>(try simp -implicitDefEqProofs (disch:=first|exact dd|fail)[Try.f49])))
end Go.Proofs.Ytfkkfhafijgdaaa
