import Derived.Test.YtfkkfhafijgdaaaP01g
import Derived.Test.YtfkkfhafijgdaaaP01h
namespace Go.Proofs.Ytfkkfhafijgdaaa
open Go.Fw
set_option linter.unusedVariables false
set_option linter.unusedSimpArgs false
set_option maxHeartbeats 1000000
set_option maxRecDepth 8000
def fsC (code:Str):DFS:=(drawFS (newC code)).1
theorem fsC_ok (code:Str):Drawn (fsC code):=drawFS_ok _
theorem spec_MakeFS (nl:Option Bool) (code:Str) (hl:code.length≤1048576):Snd Try.prog 10 [.frz 1 nl (code.map cu)] (rFS (fsC code)) [.unk]:=Runs.snd (M:=M) (c:=⟨1,[2],[],[]⟩) tok ks mixed Try.func10 (p := []) (by kernel_rfl) (by rfl) (by rfl) <| by
 have c1:=spec_l01New nl code hl
 have e2:(newC code).code=code:=rfl
 have o1:=newC_ok code
 unfold fsC
 generalize newC code=c at *
 have c2:=spec_l08Draw nl c o1 (by rw [e2];exact hl)
 generalize drawFS c=R at *
 have t1:=takeM (f:=cQuota) (rfl:R.1.quotas.length=R.1.quotas.length)
 have t2:=takeM (f:=cInode) (rfl:R.1.inodes.length=R.1.inodes.length)
 have t3:=takeM (f:=cs) (rfl:R.1.data.length=R.1.data.length)
 (try simp -implicitDefEqProofs (disch:=first|exact dd|fail)[Try.f10,t1,t2,t3]);(repeat'((with_reducible first|(refine Br.out ?_ ?_<;>intro h<;>(try(have h0:=h;simp only[bH]at h)))|refine AC_snd (c1) ?_|refine AC_snd (c2) ?_|fail)<;>(try simp -implicitDefEqProofs (disch:=first|exact dd|fail)[Try.f10,t1,t2,t3])))
end Go.Proofs.Ytfkkfhafijgdaaa
