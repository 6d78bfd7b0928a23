import Derived.Test.YtdbjdpndledcaaaP03b
import Derived.Test.YtdbjdpndledcaaaP05a
namespace Go.Proofs.Ytdbjdpndledcaaa
open Go.Fw
set_option linter.unusedVariables false
set_option linter.unusedSimpArgs false
set_option maxHeartbeats 4000000 in
theorem impl_copyDisk (n1 n2:Option Bool) (d:DDisk) (h1:d.secs.length≤1048576) (h2:d.pend.length≤1048576):Snd Try.prog 16 [fDisk n1 n2 d] (rDisk d) [.unk]:=Runs.snd (M:=M) (c:=⟨1,[1,2],[],[]⟩) tok ks mixed Try.func16 (p := []) (by kernel_rfl) (by rfl) (by rfl) <| by
 (try simp -implicitDefEqProofs (disch:=first|exact dd|fail)[Try.f16]);(repeat'((with_reducible first|(refine Br.out ?_ ?_<;>intro h<;>(try(have h0:=h;simp only[bH]at h)))|refine AC_snd (slices_CloneStr _ _ h1) ?_|refine AC_snd (slices_CloneWrite _ _ h2) ?_|fail)<;>(try simp -implicitDefEqProofs (disch:=first|exact dd|fail)[Try.f16])))
set_option maxHeartbeats 4000000 in
theorem impl_write (d:DDisk) (i:Int) (data:Str) (h1:d.secs.length≤1048576) (h2:d.pend.length≤1048576) :
  Snd Try.prog 17 [.wptr [.row 1 (d.secs.map cs), .row 2 (d.pend.map cWrite)], .int .i64 i, .str data] (.bool (writeOK d i data)) [.wptr [.row 1 (d.secs.map cs), .row 2 ((if writeOK d i data then d.pend ++ [⟨i,data⟩] else d.pend).map cWrite)], .unk, .unk]:=Runs.snd (M:=M) (c:=⟨3,[6,30],[],[]⟩) tok ks mixed Try.func17 (p := [0]) (by kernel_rfl) (by rfl) (by rfl) <| by
 (try simp -implicitDefEqProofs (disch:=first|exact dd|fail)[Try.f17]);(repeat'((with_reducible first|(refine Br.out ?_ ?_<;>intro h<;>(try(have h0:=h;simp only[bH]at h)))|fail)<;>(try simp -implicitDefEqProofs (disch:=first|exact dd|fail)[Try.f17])))
 ·simp [writeOK,show ¬ 0≤i by omega]
 ·simp [writeOK,show ¬ i < d.secs.length by omega]
 ·simp [writeOK,show ¬ List.length data=32 by omega]
 ·simp [writeOK,show ¬ d.pend.length < 400 by omega]
 ·simp [writeOK,show 0≤i by omega,show i < d.secs.length by omega,show List.length data=32 by omega,show d.pend.length < 400 by omega]
set_option maxHeartbeats 4000000 in
theorem impl_WriteSector (n1 n2:Option Bool) (d:DDisk) (i:Int) (data:Str) (h1:d.secs.length≤1048576) (h2:d.pend.length≤1048576):Snd Try.prog 6 [fDisk n1 n2 d, .int .i64 i, .str data] (.tup [rDisk (writeD d i data).1, .bool (writeD d i data).2]) [.unk, .unk, .unk]:=Runs.snd (M:=M) (c:=⟨3,[3,6,7,8,19],[],[]⟩) tok ks mixed Try.func6 (p := []) (by kernel_rfl) (by rfl) (by rfl) <| by
 (try simp -implicitDefEqProofs (disch:=first|exact dd|fail)[Try.f6]);(repeat'((with_reducible first|(refine Br.out ?_ ?_<;>intro h<;>(try(have h0:=h;simp only[bH]at h)))|refine AC_snd (impl_copyDisk _ _ d h1 h2) ?_|refine AC_snd (impl_IsDisk _ _ d h1 h2) ?_|refine AC_snd (impl_write d i data h1 h2) ?_|fail)<;>(try simp -implicitDefEqProofs (disch:=first|exact dd|fail)[Try.f6])))
 all_goals simp [writeD, *]
end Go.Proofs.Ytdbjdpndledcaaa
