import Derived.Test.YtdbjdpndledcaaaDat
import Derived.Test.YtdbjdpndledcaaaBase
namespace Go.Proofs.Ytdbjdpndledcaaa
open Go.Fw
set_option linter.unusedVariables false
set_option linter.unusedSimpArgs false
set_option maxHeartbeats 4000000 in
theorem slices_CloneStr (n:Option Bool) (xs:List Str) (hl:xs.length≤1048576):Snd Try.prog 29 [.frz 1 n (xs.map cs)] (.row 1 (xs.map cs)) [.unk]:=by
 have hl':xs.length≤LIM:=by unfold LIM;omega
 refine Snd.frz_cases (pre := []) (post := []) (fun e => ?_) (?_)
 ·obtain rfl:xs = []:=by simpa using e
  exact Runs.snd (M:=M) (c:=⟨1,[2,4],[],[]⟩) tok ks mixed Try.func29 (p := []) (by kernel_rfl) (by rfl) (by rfl) <| by
   simp -implicitDefEqProofs (disch:=first|exact dd|fail)[Try.f29,ABr,AGd]
 ·exact Runs.snd (M:=M) (c:=⟨1,[2,4],[],[]⟩) tok ks mixed Try.func29 (p := []) (by kernel_rfl) (by rfl) (by rfl) <| by
   simp -implicitDefEqProofs (disch:=first|exact dd|fail)[Try.f29,hl',ABr,AGd]
set_option maxHeartbeats 4000000 in
theorem slices_CloneWrite (n:Option Bool) (xs:List DWrite) (hl:xs.length≤1048576):Snd Try.prog 30 [.frz 2 n (xs.map cWrite)] (.row 2 (xs.map cWrite)) [.unk]:=by
 have hl':xs.length≤LIM:=by unfold LIM;omega
 refine Snd.frz_cases (pre := []) (post := []) (fun e => ?_) (?_)
 ·obtain rfl:xs = []:=by simpa using e
  exact Runs.snd (M:=M) (c:=⟨1,[2,4],[],[]⟩) tok ks mixed Try.func30 (p := []) (by kernel_rfl) (by rfl) (by rfl) <| by
   simp -implicitDefEqProofs (disch:=first|exact dd|fail)[Try.f30,ABr,AGd]
 ·exact Runs.snd (M:=M) (c:=⟨1,[2,4],[],[]⟩) tok ks mixed Try.func30 (p := []) (by kernel_rfl) (by rfl) (by rfl) <| by
   simp -implicitDefEqProofs (disch:=first|exact dd|fail)[Try.f30,hl',ABr,AGd]
set_option maxHeartbeats 4000000 in
theorem slices_EqualStr (n1 n2:Option Bool) (xs ys:List Str) (hl:xs.length≤1048576) :
  Snd Try.prog 22 [.frz 1 n1 (xs.map cs), .frz 1 n2 (ys.map cs)] (.bool (decide (xs=ys))) [.unk, .unk]:=Runs.snd (M:=M) (c:=⟨2,[4,5,10,12,13,14,24],[],[(1,[0,1,4,10,12,13,14,24])]⟩) tok ks mixed Try.func22 (p := []) (by kernel_rfl) (by rfl) (by rfl) <| by
 (try simp -implicitDefEqProofs (disch:=first|exact dd|fail)[Try.f22]);(repeat'((with_reducible first|(refine Br.out ?_ ?_<;>intro h<;>(try(have h0:=h;simp only[bH]at h)))|fail)<;>(try simp -implicitDefEqProofs (disch:=first|exact dd|fail)[Try.f22])))
 rotate_left
 ·rintro rfl;omega
 refine AL_ind (fun i=>xs.length - i) (fun i=>⟨[(0, .frz 1 n1 (xs.map cs)),(1, .frz 1 n2 (ys.map cs)),(4, .bool false),(12, .int .i64 xs.length),(13, .int .i64 i)],[],false⟩)
  (fun i=>i≤xs.length∧xs.take i=ys.take i) 0 rfl ⟨by omega,rfl⟩ ?_
 rintro i n ⟨hi,he⟩ ih
 rcases Nat.lt_or_ge i xs.length with hlt | hge
 ·have hlt':i < ys.length:=by omega
  (try simp -implicitDefEqProofs (disch:=first|exact dd|fail)[Try.f22,hlt,hlt']);(repeat'((with_reducible first|(refine Br.out ?_ ?_<;>intro h<;>(try(have h0:=h;simp only[bH]at h)))|fail)<;>(try simp -implicitDefEqProofs (disch:=first|exact dd|fail)[Try.f22,hlt,hlt'])))
  all_goals first
   |(refine ih (i + 1) ⟨by omega,take_step hlt hlt' he ?_⟩ (by omega);revert h;generalize xs[i]=x;generalize ys[i]=y;cases x<;>cases y<;>simp)
   |(rintro rfl;simp at h)
 ·obtain rfl:i=xs.length:=by omega
  (try simp -implicitDefEqProofs (disch:=first|exact dd|fail)[Try.f22]);(repeat'((with_reducible first|(refine Br.out ?_ ?_<;>intro h<;>(try(have h0:=h;simp only[bH]at h)))|fail)<;>(try simp -implicitDefEqProofs (disch:=first|exact dd|fail)[Try.f22])))
  exact take_all (by omega) he
set_option maxHeartbeats 4000000 in
theorem slices_EqualWrite (n1 n2:Option Bool) (xs ys:List DWrite) (hl:xs.length≤1048576) :
  Snd Try.prog 23 [.frz 2 n1 (xs.map cWrite), .frz 2 n2 (ys.map cWrite)] (.bool (decide (xs=ys))) [.unk, .unk]:=Runs.snd (M:=M) (c:=⟨2,[4,5,10,12,13,14,24],[],[(1,[0,1,4,10,12,13,14,24])]⟩) tok ks mixed Try.func23 (p := []) (by kernel_rfl) (by rfl) (by rfl) <| by
 (try simp -implicitDefEqProofs (disch:=first|exact dd|fail)[Try.f23]);(repeat'((with_reducible first|(refine Br.out ?_ ?_<;>intro h<;>(try(have h0:=h;simp only[bH]at h)))|fail)<;>(try simp -implicitDefEqProofs (disch:=first|exact dd|fail)[Try.f23])))
 rotate_left
 ·rintro rfl;omega
 refine AL_ind (fun i=>xs.length - i) (fun i=>⟨[(0, .frz 2 n1 (xs.map cWrite)),(1, .frz 2 n2 (ys.map cWrite)),(4, .bool false),(12, .int .i64 xs.length),(13, .int .i64 i)],[],false⟩)
  (fun i=>i≤xs.length∧xs.take i=ys.take i) 0 rfl ⟨by omega,rfl⟩ ?_
 rintro i n ⟨hi,he⟩ ih
 rcases Nat.lt_or_ge i xs.length with hlt | hge
 ·have hlt':i < ys.length:=by omega
  (try simp -implicitDefEqProofs (disch:=first|exact dd|fail)[Try.f23,hlt,hlt']);(repeat'((with_reducible first|(refine Br.out ?_ ?_<;>intro h<;>(try(have h0:=h;simp only[bH]at h)))|fail)<;>(try simp -implicitDefEqProofs (disch:=first|exact dd|fail)[Try.f23,hlt,hlt'])))
  all_goals first
   |(refine ih (i + 1) ⟨by omega,take_step hlt hlt' he ?_⟩ (by omega);revert h;generalize xs[i]=x;generalize ys[i]=y;cases x<;>cases y<;>simp)
   |(rintro rfl;simp at h)
 ·obtain rfl:i=xs.length:=by omega
  (try simp -implicitDefEqProofs (disch:=first|exact dd|fail)[Try.f23]);(repeat'((with_reducible first|(refine Br.out ?_ ?_<;>intro h<;>(try(have h0:=h;simp only[bH]at h)))|fail)<;>(try simp -implicitDefEqProofs (disch:=first|exact dd|fail)[Try.f23])))
  exact take_all (by omega) he
end Go.Proofs.Ytdbjdpndledcaaa
