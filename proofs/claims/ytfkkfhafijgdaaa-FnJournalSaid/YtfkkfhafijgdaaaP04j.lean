import Derived.Test.YtfkkfhafijgdaaaP04h
import Derived.Test.YtfkkfhafijgdaaaP04i
import Derived.Test.YtfkkfhafijgdaaaP04b
import Derived.Test.YtfkkfhafijgdaaaP04c
import Derived.Test.YtfkkfhafijgdaaaPZ
namespace Go.Proofs.Ytfkkfhafijgdaaa
open Go.Fw
set_option linter.unusedVariables false
set_option linter.unusedSimpArgs false
set_option maxHeartbeats 1000000
set_option maxRecDepth 8000
theorem rec_eq (d:DDisk):recSteps d=if jb d=true then (jl d).map stepW++clearS else []:=by
 unfold recSteps jb jl
 cases readJ d with
 | none=>rfl
 | some p=>rfl
theorem jl_len (d:DDisk):(jl d).length≤64:=by
 unfold jl
 cases h:readJ d with
 | none=>simp
 | some p=>
  unfold readJ at h
  split at h
  ·rename_i hc
   cases h
   simp only [jList_len]
   have:=hc.2.2.1.2
   omega
  ·cases h
theorem impl_writeSteps (n1:Option Bool) (l:List DWrite) (hl:l.length≤1048576):Snd Try.prog 100 [.frz 2 n1 (l.map cWrite)] (.row 3 ((l.map stepW).map cStep)) [.unk]:=Runs.snd (M:=M) (c:=⟨1,[2,3,5,7,8,9,10],[],[(1,[0,2,3,7,8,9,10])]⟩) tok ks mixed Try.func100 (p := []) (by kernel_rfl) (by rfl) (by rfl) <| by
 obtain ⟨S,hS⟩:∃ S,S=(l.map stepW).map cStep:=⟨_,rfl⟩
 rw [←hS]
 have hSl:S.length=l.length:=by rw [hS];simp
 have hSt:List.take l.length S=S:=List.take_of_length_le (by omega)
 (try simp -implicitDefEqProofs (disch:=first|exact dd|fail)[Try.f100]);(repeat'((with_reducible first|(refine Br.out ?_ ?_<;>intro h<;>(try(have h0:=h;simp only[bH]at h)))|fail)<;>(try simp -implicitDefEqProofs (disch:=first|exact dd|fail)[Try.f100])))
 refine AL_fors (σ:=Unit) 9 l.length (fun i _ => [(3, .ref 384 none 3 0 i (some false))]) (fun i _ => [(384, .row 3 (((l.take i).map stepW).map cStep) [])]) (fun _ _=>True) () (by simp) trivial (fun i _ n hlt _ ih => ?_) (fun _ n _ => ?_)
 ·have hj:=ih () trivial
  rw [List.take_succ_eq_append_getElem hlt] at hj
  have hlen:((l.take i).map stepW).length=i:=by simp;omega
  have htk:=takeM (f:=cStep) hlen
  simp only [List.map_append,List.map_cons,List.map_nil] at hj
  generalize (l.take i).map stepW=L at *
  simp only [cStep,stepW] at hj
  have h30:i≤1073741823:=by omega
  (try simp -implicitDefEqProofs (disch:=first|exact dd|fail)[Try.f100,hlt,hlen,htk,h30,cWrite]);(repeat'((with_reducible first|(refine Br.out ?_ ?_<;>intro h<;>(try(have h0:=h;simp only[bH]at h)))|fail)<;>(try simp -implicitDefEqProofs (disch:=first|exact dd|fail)[Try.f100,hlt,hlen,htk,h30,cWrite])))
  all_goals first | exact hj
 ·rw [List.take_length,←hS]
  (try simp -implicitDefEqProofs (disch:=first|exact dd|fail)[Try.f100,hSl,hSt]);(repeat'((with_reducible first|(refine Br.out ?_ ?_<;>intro h<;>(try(have h0:=h;simp only[bH]at h)))|fail)<;>(try simp -implicitDefEqProofs (disch:=first|exact dd|fail)[Try.f100,hSl,hSt])))
theorem impl_installSteps (n1:Option Bool) (l:List DWrite) (hl:l.length≤1048576):Snd Try.prog 101 [.frz 2 n1 (l.map cWrite)] (.row 3 ((l.map stepW++clearS).map cStep)) [.unk]:=Runs.snd (M:=M) (c:=⟨1,[2],[],[]⟩) tok ks mixed Try.func101 (p := []) (by kernel_rfl) (by rfl) (by rfl) <| by
 have cW:=impl_writeSteps n1 l hl
 have hlen:(l.map stepW).length=l.length:=by simp
 have e:clearS.map cStep = [[.bool true, .int .i64 0, .str []],[.bool false, .int .i64 1, .str zero32],[.bool true, .int .i64 0, .str []]]:=rfl
 rw [List.map_append,e]
 generalize l.map stepW=L at *
 have htk:=takeM (f:=cStep) hlen
 have h30:l.length≤1073741821:=by omega
 (try simp -implicitDefEqProofs (disch:=first|exact dd|fail)[Try.f101,hlen,htk,h30]);(repeat'((with_reducible first|(refine Br.out ?_ ?_<;>intro h<;>(try(have h0:=h;simp only[bH]at h)))|refine AC_snd (cW) ?_|refine AC_snd (impl_zeros32) ?_|fail)<;>(try simp -implicitDefEqProofs (disch:=first|exact dd|fail)[Try.f101,hlen,htk,h30])))
theorem spec_l04Clear:Snd Try.prog 134 [] (.row 3 (clearS.map cStep)) []:=Runs.snd (M:=M) (c:=⟨0,[0],[],[]⟩) tok ks mixed Try.func134 (p := []) (by kernel_rfl) (by rfl) (by rfl) <| by
 have e:clearS.map cStep = [[.bool true, .int .i64 0, .str []],[.bool false, .int .i64 1, .str zero32],[.bool true, .int .i64 0, .str []]]:=rfl
 rw [e]
 (try simp -implicitDefEqProofs (disch:=first|exact dd|fail)[Try.f134]);(repeat'((with_reducible first|(refine Br.out ?_ ?_<;>intro h<;>(try(have h0:=h;simp only[bH]at h)))|refine AC_snd (spec_PadTo0) ?_|fail)<;>(try simp -implicitDefEqProofs (disch:=first|exact dd|fail)[Try.f134])))
theorem impl_RecoverySteps (n1 n2:Option Bool) (d:DDisk) (h1:d.secs.length≤1048576) (h2:d.pend.length≤1048576):Snd Try.prog 82 [fDisk n1 n2 d] (.row 3 ((recSteps d).map cStep)) [.unk]:=Runs.snd (M:=M) (c:=⟨1,[1,2,4,5,13],[],[]⟩) tok ks mixed Try.func82 (p := []) (by kernel_rfl) (by rfl) (by rfl) <| by
 have cJ:=impl_ReadJournal n1 n2 d h1 h2
 have hl:=jl_len d
 have cS:=fun a=>impl_installSteps a (jl d) (by omega)
 rw [rec_eq]
 have htk:=takeM (f:=cWrite) (rfl:(jl d).length=(jl d).length)
 generalize jl d=l at *
 generalize jq d=q at *
 cases hb:jb d with
 | true=>
  rw [hb] at cJ
  rw [if_pos rfl]
  generalize l.map stepW++clearS=S at *
  (try simp -implicitDefEqProofs (disch:=first|exact dd|fail)[Try.f82,htk]);(repeat'((with_reducible first|(refine Br.out ?_ ?_<;>intro h<;>(try(have h0:=h;simp only[bH]at h)))|refine AC_snd (cJ) ?_|refine AC_snd (cS _) ?_|fail)<;>(try simp -implicitDefEqProofs (disch:=first|exact dd|fail)[Try.f82,htk])))
 | false=>
  rw [hb] at cJ
  rw [if_neg (by decide)]
  (try simp -implicitDefEqProofs (disch:=first|exact dd|fail)[Try.f82,htk]);(repeat'((with_reducible first|(refine Br.out ?_ ?_<;>intro h<;>(try(have h0:=h;simp only[bH]at h)))|refine AC_snd (cJ) ?_|fail)<;>(try simp -implicitDefEqProofs (disch:=first|exact dd|fail)[Try.f82,htk])))
theorem spec_RecoverySteps (n1 n2:Option Bool) (d:DDisk) (h1:d.secs.length≤1048576) (h2:d.pend.length≤1048576):Snd Try.prog 78 [fDisk n1 n2 d] (.row 3 ((recSteps d).map cStep)) [.unk]:=Runs.snd (M:=M) (c:=⟨1,[1,2,4,5,6,8,16,18,19,20,21],[],[(1,[0,1,2,4,5,6,16,18,19,20,21])]⟩) tok ks mixed Try.func78 (p := []) (by kernel_rfl) (by rfl) (by rfl) <| by
 have cJ:=spec_ReadJournal n1 n2 d h1 h2
 have hl:=jl_len d
 rw [rec_eq]
 have htl:=takeM (f:=cWrite) (rfl:(jl d).length=(jl d).length)
 generalize jl d=l at *
 generalize jq d=q at *
 cases hb:jb d with
 | true=>
  rw [hb] at cJ
  rw [if_pos rfl]
  obtain ⟨S,hS⟩:∃ S,S=(l.map stepW++clearS).map cStep:=⟨_,rfl⟩
  rw [←hS]
  (try simp -implicitDefEqProofs (disch:=first|exact dd|fail)[Try.f78,htl]);(repeat'((with_reducible first|(refine Br.out ?_ ?_<;>intro h<;>(try(have h0:=h;simp only[bH]at h)))|refine AC_snd (cJ) ?_|fail)<;>(try simp -implicitDefEqProofs (disch:=first|exact dd|fail)[Try.f78,htl])))
  refine AL_fors (σ:=Unit) 20 l.length (fun i _ => [(6, .ref 768 none 3 0 i (some false))]) (fun i _ => [(768, .row 3 (((l.take i).map stepW).map cStep) [])]) (fun _ _=>True) () (by simp) trivial (fun i _ n hlt _ ih => ?_) (fun _ n _ => ?_)
  ·have hj:=ih () trivial
   rw [List.take_succ_eq_append_getElem hlt] at hj
   have hlen:((l.take i).map stepW).length=i:=by simp;omega
   have htk:=takeM (f:=cStep) hlen
   simp only [List.map_append,List.map_cons,List.map_nil] at hj
   generalize (l.take i).map stepW=L at *
   simp only [cStep,stepW] at hj
   have h30:i≤1073741823:=by omega
   (try simp -implicitDefEqProofs (disch:=first|exact dd|fail)[Try.f78,hlt,hlen,htk,h30,cWrite]);(repeat'((with_reducible first|(refine Br.out ?_ ?_<;>intro h<;>(try(have h0:=h;simp only[bH]at h)))|fail)<;>(try simp -implicitDefEqProofs (disch:=first|exact dd|fail)[Try.f78,hlt,hlen,htk,h30,cWrite])))
   all_goals first | exact hj
  ·rw [List.take_length]
   have hlen:(l.map stepW).length=l.length:=by simp
   have htk:=takeM (f:=cStep) hlen
   have cC:=spec_l04Clear
   have e:clearS.map cStep = [[.bool true, .int .i64 0, .str []],[.bool false, .int .i64 1, .str zero32],[.bool true, .int .i64 0, .str []]]:=rfl
   rw [List.map_append,e] at hS
   rw [e] at cC
   generalize l.map stepW=L at *
   have h30:l.length≤1073741821:=by omega
   (try simp -implicitDefEqProofs (disch:=first|exact dd|fail)[Try.f78,hlen,htk,h30,hS]);(repeat'((with_reducible first|(refine Br.out ?_ ?_<;>intro h<;>(try(have h0:=h;simp only[bH]at h)))|refine AC_snd (cC) ?_|fail)<;>(try simp -implicitDefEqProofs (disch:=first|exact dd|fail)[Try.f78,hlen,htk,h30,hS])))
 | false=>
  rw [hb] at cJ
  rw [if_neg (by decide)]
  (try simp -implicitDefEqProofs (disch:=first|exact dd|fail)[Try.f78,htl]);(repeat'((with_reducible first|(refine Br.out ?_ ?_<;>intro h<;>(try(have h0:=h;simp only[bH]at h)))|refine AC_snd (cJ) ?_|fail)<;>(try simp -implicitDefEqProofs (disch:=first|exact dd|fail)[Try.f78,htl])))
theorem rec_len (d:DDisk):(recSteps d).length≤67:=by
 rw [rec_eq]
 have:=jl_len d
 split
 ·simp [clearS];omega
 ·simp
theorem impl_RecoverDisk (n1 n2:Option Bool) (d:DDisk) (h1:d.secs.length≤1048576) (h2:d.pend.length≤1048576):Snd Try.prog 30 [fDisk n1 n2 d] (rDisk (recovD d)) [.unk]:=Runs.snd (M:=M) (c:=⟨1,[1,2,3],[],[]⟩) tok ks mixed Try.func30 (p := []) (by kernel_rfl) (by rfl) (by rfl) <| by
 have cS:=impl_RecoverySteps n1 n2 d h1 h2
 have hl:=rec_len d
 have cR:=fun a=>impl_RunSteps n1 n2 a d (recSteps d) (recSteps d).length h1 h2 (by omega)
 have htk:=takeM (f:=cStep) (rfl:(recSteps d).length=(recSteps d).length)
 unfold recovD
 generalize recSteps d=S at *
 generalize runSt d S S.length=R at *
 have t1:=takeM (f:=cs) (rfl:R.secs.length=R.secs.length)
 have t2:=takeM (f:=cWrite) (rfl:R.pend.length=R.pend.length)
 (try simp -implicitDefEqProofs (disch:=first|exact dd|fail)[Try.f30,htk,t1,t2]);(repeat'((with_reducible first|(refine Br.out ?_ ?_<;>intro h<;>(try(have h0:=h;simp only[bH]at h)))|refine AC_snd (cS) ?_|refine AC_snd (cR _) ?_|fail)<;>(try simp -implicitDefEqProofs (disch:=first|exact dd|fail)[Try.f30,htk,t1,t2])))
theorem spec_RecoverDisk (n1 n2:Option Bool) (d:DDisk) (h1:d.secs.length≤1048576) (h2:d.pend.length≤1048576):Snd Try.prog 28 [fDisk n1 n2 d] (rDisk (recovD d)) [.unk]:=Runs.snd (M:=M) (c:=⟨1,[1,2,3],[],[]⟩) tok ks mixed Try.func28 (p := []) (by kernel_rfl) (by rfl) (by rfl) <| by
 have cS:=spec_RecoverySteps n1 n2 d h1 h2
 have hl:=rec_len d
 have cR:=fun a=>spec_RunSteps n1 n2 a d (recSteps d) (recSteps d).length h1 h2 (by omega)
 have htk:=takeM (f:=cStep) (rfl:(recSteps d).length=(recSteps d).length)
 unfold recovD
 generalize recSteps d=S at *
 generalize runSt d S S.length=R at *
 have t1:=takeM (f:=cs) (rfl:R.secs.length=R.secs.length)
 have t2:=takeM (f:=cWrite) (rfl:R.pend.length=R.pend.length)
 (try simp -implicitDefEqProofs (disch:=first|exact dd|fail)[Try.f28,htk,t1,t2]);(repeat'((with_reducible first|(refine Br.out ?_ ?_<;>intro h<;>(try(have h0:=h;simp only[bH]at h)))|refine AC_snd (cS) ?_|refine AC_snd (cR _) ?_|fail)<;>(try simp -implicitDefEqProofs (disch:=first|exact dd|fail)[Try.f28,htk,t1,t2])))
end Go.Proofs.Ytfkkfhafijgdaaa
