import Derived.Test.YtdbjdpndledcaaaP03a
namespace Go.Proofs.Ytdbjdpndledcaaa
open Go.Fw
set_option linter.unusedVariables false
set_option linter.unusedSimpArgs false
set_option maxHeartbeats 4000000 in
theorem impl_IsDisk (n1 n2:Option Bool) (d:DDisk) (h1:d.secs.length≤1048576) (h2:d.pend.length≤1048576):Snd Try.prog 10 [fDisk n1 n2 d] (.bool (isDisk d)) [.unk]:=Runs.snd (M:=M) (c:=⟨1,[1,2,4,6,16,18,19,20,21,26,29,30,31,32,51],[],[(1,[0,1,2,6,16,18,19,20,21,26,29,30,31,32,51]),(3,[0,1,2,4,16,18,19,20,21,26,29,30,31,32,51])]⟩) tok ks mixed Try.func10 (p := []) (by kernel_rfl) (by rfl) (by rfl) <| by
 (try simp -implicitDefEqProofs (disch:=first|exact dd|fail)[Try.f10]);(repeat'((with_reducible first|(refine Br.out ?_ ?_<;>intro h<;>(try(have h0:=h;simp only[bH]at h)))|fail)<;>(try simp -implicitDefEqProofs (disch:=first|exact dd|fail)[Try.f10])))
 ·simp [isDisk,show ¬ d.secs.length≤400 by omega]
 ·simp [isDisk,show ¬ d.pend.length≤400 by omega]
 refine AL_ind (fun i=>d.secs.length - i) (fun i=>⟨[(0,fDisk n1 n2 d),(1, .ptr 128 none 0 0),(2, .bool false),(18, .frz 1 n1 (d.secs.map cs)),(19, .int .i64 d.secs.length),(20, .int .i64 i)],[(128, .box [.frz 1 n1 (d.secs.map cs), .frz 2 n2 (d.pend.map cWrite)])],false⟩)
  (fun i=>i≤d.secs.length∧(d.secs.drop i).all isSec=d.secs.all isSec) 0 rfl ⟨by omega,rfl⟩ ?_
 rintro i n ⟨hi,he⟩ ih
 rcases Nat.lt_or_ge i d.secs.length with hlt | hge
 ·rw [all_drop hlt] at he
  (try simp -implicitDefEqProofs (disch:=first|exact dd|fail)[Try.f10,hlt]);(repeat'((with_reducible first|(refine Br.out ?_ ?_<;>intro h<;>(try(have h0:=h;simp only[bH]at h)))|fail)<;>(try simp -implicitDefEqProofs (disch:=first|exact dd|fail)[Try.f10,hlt])))
  ·have h':List.length d.secs[i]=32:=by omega
   exact ih (i + 1) ⟨by omega,by simpa [isSec,h'] using he⟩ (by omega)
  ·have h':¬ List.length d.secs[i]=32:=by omega
   simp [isDisk,←he,isSec,h']
 ·obtain rfl:i=d.secs.length:=by omega
  simp only [List.drop_length,List.all_nil] at he
  (try simp -implicitDefEqProofs (disch:=first|exact dd|fail)[Try.f10]);(repeat'((with_reducible first|(refine Br.out ?_ ?_<;>intro h<;>(try(have h0:=h;simp only[bH]at h)))|fail)<;>(try simp -implicitDefEqProofs (disch:=first|exact dd|fail)[Try.f10])))
  refine AL_ind (fun i=>d.pend.length - i) (fun i=>⟨[(0,fDisk n1 n2 d),(1, .ptr 128 none 0 0),(2, .bool false),(18, .frz 1 n1 (d.secs.map cs)),(19, .int .i64 d.secs.length),(20, .int .i64 d.secs.length),(29, .frz 2 n2 (d.pend.map cWrite)),(30, .int .i64 d.pend.length),(31, .int .i64 i)],[(128, .box [.frz 1 n1 (d.secs.map cs), .frz 2 n2 (d.pend.map cWrite)])],false⟩)
   (fun i=>i≤d.pend.length∧(d.pend.drop i).all (isPend d.secs.length)=d.pend.all (isPend d.secs.length)) 0 rfl ⟨by omega,rfl⟩ ?_
  rintro i n ⟨hi,hp⟩ ih
  rcases Nat.lt_or_ge i d.pend.length with hlt | hge
  ·rw [all_drop hlt] at hp
   (try simp -implicitDefEqProofs (disch:=first|exact dd|fail)[Try.f10,hlt]);(repeat'((with_reducible first|(refine Br.out ?_ ?_<;>intro h<;>(try(have h0:=h;simp only[bH]at h)))|fail)<;>(try simp -implicitDefEqProofs (disch:=first|exact dd|fail)[Try.f10,hlt])))
   ·simp [isDisk,←hp,isPend,show ¬ 0≤d.pend[i].sec by omega]
   ·simp [isDisk,←hp,isPend,show ¬ d.pend[i].sec < d.secs.length by omega]
   ·refine ih (i + 1) ⟨by omega,?_⟩ (by omega)
    rw [←hp]
    simp [isPend,show 0≤d.pend[i].sec by omega,show d.pend[i].sec < d.secs.length by omega,show List.length d.pend[i].data=32 by omega]
   ·simp [isDisk,←hp,isPend,show ¬ List.length d.pend[i].data=32 by omega]
  ·obtain rfl:i=d.pend.length:=by omega
   simp only [List.drop_length,List.all_nil] at hp
   (try simp -implicitDefEqProofs (disch:=first|exact dd|fail)[Try.f10]);(repeat'((with_reducible first|(refine Br.out ?_ ?_<;>intro h<;>(try(have h0:=h;simp only[bH]at h)))|fail)<;>(try simp -implicitDefEqProofs (disch:=first|exact dd|fail)[Try.f10])))
   simp [isDisk,←he,←hp]
   omega
end Go.Proofs.Ytdbjdpndledcaaa
