import Derived.Test.YtfkkfhafijgdaaaP04b
namespace Go.Proofs.Ytfkkfhafijgdaaa
open Go.Fw
set_option linter.unusedVariables false
set_option linter.unusedSimpArgs false
set_option maxHeartbeats 4000000 in
theorem spec_RunSteps (n1 n2 n3:Option Bool) (d:DDisk) (l:List DStep) (n:Int) (h1:d.secs.length≤1048576) (h2:d.pend.length≤1048576) (h3:l.length≤1048576):Snd Try.prog 79 [fDisk n1 n2 d, .frz 3 n3 (l.map cStep), .int .i64 n] (rDisk (runSt d l n)) [.unk, .unk, .unk]:=Runs.snd (M:=M) (c:=⟨3,[3,6,7,8,9,10,14,15,16,17,23,25],[],[(1,[0,1,2,3,6,7,14,15,16,17,23,25])]⟩) tok ks mixed Try.func79 (p := []) (by kernel_rfl) (by rfl) (by rfl) <| by
 (try simp -implicitDefEqProofs (disch:=first|exact dd|fail)[Try.f79]);(repeat'((with_reducible first|(refine Br.out ?_ ?_<;>intro h<;>(try(have h0:=h;simp only[bH]at h)))|refine AC_snd (spec_l03Copy _ _ d h1 h2) ?_|fail)<;>(try simp -implicitDefEqProofs (disch:=first|exact dd|fail)[Try.f79])))
 refine AL_ind (fun i=>l.length - i) (fun i=>⟨[(0,fDisk n1 n2 d),(1, .frz 3 n3 (l.map cStep)),(2, .int .i64 n),(3, .ptr 384 none 0 0),(6, .ptr 768 none 0 0),(7, .ptr 896 none 0 0),(14, .frz 3 n3 (l.map cStep)),(15, .int .i64 l.length),(16, .int .i64 i)],
   [(384, .box [.frz 1 n1 (d.secs.map cs), .frz 2 n2 (d.pend.map cWrite)]),(768, .box [.frz 1 (some true) [], .frz 2 (some true) []]),(896, .box [.ref 898 none 1 0 ((l.take i).foldl stepD d).secs.length none, .ref 900 none 2 0 ((l.take i).foldl stepD d).pend.length none]),(898, .row 1 (((l.take i).foldl stepD d).secs.map cs) []),(900, .row 2 (((l.take i).foldl stepD d).pend.map cWrite) [])],false⟩)
  (fun i=>i≤l.length∧i≤n.toNat) 0 rfl ⟨by simp,by simp⟩ ?_
 rintro i m ⟨hi,hn⟩ ih
 have hlen:=runSt_len (d:=d) (l:=l.take i)
 rcases Nat.lt_or_ge i l.length with hlt | hge
 ·have hst:=foldl_take (f:=stepD) (a:=d) hlt
  have hr:n≤i→runSt d l n=(l.take i).foldl stepD d:=fun h=>by rw [runSt,show n.toNat=i by omega]
  generalize he:(l.take i).foldl stepD d=e at *
  have e1:e.secs.length≤1048576:=by omega
  have e2:e.pend.length≤1048576:=by omega
  have k1:¬ n≤i→i + 1≤n.toNat:=fun _=>by omega
  (try simp -implicitDefEqProofs (disch:=first|exact dd|fail)[Try.f79,hlt]);(repeat'((with_reducible first|(refine Br.out ?_ ?_<;>intro h<;>(try(have h0:=h;simp only[bH]at h)))|refine AC_snd (spec_FlushDisk _ _ e e1 e2) ?_|refine AC_snd (spec_WriteSector _ _ e _ _ e1 e2) ?_|fail)<;>(try simp -implicitDefEqProofs (disch:=first|exact dd|fail)[Try.f79,hlt])))
  ·simp [hr (by assumption)]
  ·have:=ih (i + 1) ⟨by omega,k1 (by assumption)⟩ (by omega)
   simp only [hst,stepD,show l[i].flush=true by assumption,if_true] at this
   exact this
  ·have:=ih (i + 1) ⟨by omega,k1 (by assumption)⟩ (by omega)
   simp only [hst,stepD,show l[i].flush=false by assumption,Bool.false_eq_true,if_false] at this
   exact this
 ·obtain rfl:i=l.length:=by omega
  have hr:runSt d l n=l.foldl stepD d:=by rw [runSt,List.take_of_length_le (by omega)]
  rw [List.take_length] at hlen ⊢
  (try simp -implicitDefEqProofs (disch:=first|exact dd|fail)[Try.f79,hr]);(repeat'((with_reducible first|(refine Br.out ?_ ?_<;>intro h<;>(try(have h0:=h;simp only[bH]at h)))|fail)<;>(try simp -implicitDefEqProofs (disch:=first|exact dd|fail)[Try.f79,hr])))
end Go.Proofs.Ytfkkfhafijgdaaa
