import Derived.Test.YtdbjdpndledcaaaP03c
namespace Go.Proofs.Ytdbjdpndledcaaa
open Go.Fw
set_option linter.unusedVariables false
set_option linter.unusedSimpArgs false
set_option maxHeartbeats 4000000 in
theorem impl_all (k:Int):Snd Try.prog 19 [.int .i64 k] (.bool true) [.unk]:=Runs.snd (M:=M) (c:=⟨1,[2],[],[]⟩) tok ks mixed Try.func19 (p := []) (by kernel_rfl) (by rfl) (by rfl) <| by
 (try simp -implicitDefEqProofs (disch:=first|exact dd|fail)[Try.f19]);(repeat'((with_reducible first|(refine Br.out ?_ ?_<;>intro h<;>(try(have h0:=h;simp only[bH]at h)))|fail)<;>(try simp -implicitDefEqProofs (disch:=first|exact dd|fail)[Try.f19])))
set_option maxHeartbeats 4000000 in
theorem impl_keepAll (d:DDisk) (hd:isDisk d=true) :
  Snd Try.prog 18 [.wptr [.row 1 (d.secs.map cs), .row 2 (d.pend.map cWrite)], .fn 19 []] (.tup []) [.wptr [.row 1 ((storeAll d.secs d.pend).map cs), .row 2 []], .unk]:=Runs.snd (M:=M) (c:=⟨2,[4,5,9,10,11,12,18],[],[(1,[0,1,9,10,11,12,18])]⟩) tok ks mixed Try.func18 (p := [0]) (by kernel_rfl) (by rfl) (by rfl) <| by
 have h1:=isDisk_secs hd
 have h2:=isDisk_pend hd
 (try simp -implicitDefEqProofs (disch:=first|exact dd|fail)[Try.f18]);(repeat'((with_reducible first|(refine Br.out ?_ ?_<;>intro h<;>(try(have h0:=h;simp only[bH]at h)))|fail)<;>(try simp -implicitDefEqProofs (disch:=first|exact dd|fail)[Try.f18])))
 have h3:=isDisk_iff.1 hd
 refine AL_ind (fun i=>d.pend.length - i) (fun i=>⟨[(0, .ptr 0 none 0 0),(1, .fn 19 []),(9, .ref 4 none 2 0 d.pend.length none),(10, .int .i64 d.pend.length),(11, .int .i64 i)],[(0, .box [.ref 2 none 1 0 d.secs.length none, .ref 4 none 2 0 d.pend.length none]),(2, .row 1 ((storeAll d.secs (d.pend.take i)).map cs) []),(4, .row 2 (d.pend.map cWrite) [])],false⟩)
  (fun i=>i≤d.pend.length) 0 (by simp [storeAll]) (by omega) ?_
 intro i n hi ih
 rcases Nat.lt_or_ge i d.pend.length with hlt | hge
 ·have h4:=h3.2.2.2 d.pend[i] (List.getElem_mem hlt)
  have h5:((storeAll d.secs (d.pend.take i)).map cs).set d.pend[i].sec.toNat [.str d.pend[i].data]=(storeAll d.secs (d.pend.take (i + 1))).map cs:=by
   rw [storeAll_take hlt,List.map_set]
   rfl
  have h6:=storeAll_len (secs:=d.secs) (ws:=d.pend.take i)
  (try simp -implicitDefEqProofs (disch:=first|exact dd|fail)[Try.f18,hlt,h5]);(repeat'((with_reducible first|(refine Br.out ?_ ?_<;>intro h<;>(try(have h0:=h;simp only[bH]at h)))|refine AC_snd (impl_all _) ?_|fail)<;>(try simp -implicitDefEqProofs (disch:=first|exact dd|fail)[Try.f18,hlt,h5])))
  exact ih (i + 1) (by omega) (by omega)
 ·obtain rfl:i=d.pend.length:=by omega
  (try simp -implicitDefEqProofs (disch:=first|exact dd|fail)[Try.f18,storeAll_len]);(repeat'((with_reducible first|(refine Br.out ?_ ?_<;>intro h<;>(try(have h0:=h;simp only[bH]at h)))|fail)<;>(try simp -implicitDefEqProofs (disch:=first|exact dd|fail)[Try.f18,storeAll_len])))
end Go.Proofs.Ytdbjdpndledcaaa
