import Derived.Test.YtgopfdninbknpaaGreatP16d
import Derived.Test.YtgopfdninbknpaaGreatP16a
import Derived.Test.YtgopfdninbknpaaGreatP08
import Derived.Test.YtgopfdninbknpaaGreatP06
import Derived.Test.YtgopfdninbknpaaGreatM32
namespace Go.Proofs.YtgopfdninbknpaaGreat
open Go.Fw
set_option linter.unusedVariables false
set_option linter.unusedSimpArgs false
set_option maxHeartbeats 1000000
set_option maxRecDepth 8000
theorem impl_copyCred (n1:Option Bool) (c:DCred) (hc:c.groups.length≤1048576):Snd Tryz.prog 130 [fCred n1 c] (rCred c) [.unk]:=Runs.snd (M:=M) (c:=⟨1,[1,2],[],[]⟩) tok ks mixed Tryz.func130 (p := []) (by kernel_rfl) (by rfl) (by rfl) <| by
 (try simp -implicitDefEqProofs (disch:=first|exact dd|fail)[Tryz.f130]);(repeat'((with_reducible first|(refine Br.out ?_ ?_<;>intro h<;>(try(have h0:=h;simp only[bH]at h)))|refine AC_snd (slices_CloneInt _ c.groups hc) ?_|fail)<;>(try simp -implicitDefEqProofs (disch:=first|exact dd|fail)[Tryz.f130])))
theorem spec_l06Copy (n1:Option Bool) (c:DCred) (hc:c.groups.length≤1048576):Snd Tryz.prog 128 [fCred n1 c] (rCred c) [.unk]:=Runs.snd (M:=M) (c:=⟨1,[1,2],[],[]⟩) tok ks mixed Tryz.func128 (p := []) (by kernel_rfl) (by rfl) (by rfl) <| by
 (try simp -implicitDefEqProofs (disch:=first|exact dd|fail)[Tryz.f128]);(repeat'((with_reducible first|(refine Br.out ?_ ?_<;>intro h<;>(try(have h0:=h;simp only[bH]at h)))|fail)<;>(try simp -implicitDefEqProofs (disch:=first|exact dd|fail)[Tryz.f128])))
theorem impl_copySystem (n1 n2 n3 n4:Option Bool) (s:DSystem) (hs:SmS s):Snd Tryz.prog 122 [fSystem n1 n2 n3 n4 s] (rSystem s) [.unk]:=Runs.snd (M:=M) (c:=⟨1,[1,2,3,5,11,12,13,14],[],[(1,[0,1,2,3,11,12,13,14])]⟩) tok ks mixed Tryz.func122 (p := []) (by kernel_rfl) (by rfl) (by rfl) <| by
 have k1:=hs.procs
 (try simp -implicitDefEqProofs (disch:=first|exact dd|fail)[Tryz.f122]);(repeat'((with_reducible first|(refine Br.out ?_ ?_<;>intro h<;>(try(have h0:=h;simp only[bH]at h)))|refine AC_snd (impl_copyFS _ _ _ s.fs hs.fs) ?_|fail)<;>(try simp -implicitDefEqProofs (disch:=first|exact dd|fail)[Tryz.f122])))
 refine AL_fors (σ:=Unit) 13 s.procs.length (fun _ _ => []) (fun i _=>if i=0 then [] else [(384, .box [.int .i64 s.fs.tick, .ref 388 none 2 0 s.fs.quotas.length none, .ref 390 none 10 0 s.fs.inodes.length none, .ref 392 none 1 0 s.fs.data.length none, .ref 394 none 4 0 i none]),(394, .row 4 ((s.procs.take i).map cProc) [])]) (fun _ _=>True) () rfl trivial (fun i _ n hlt _ ih => ?_) (fun _ n _ => ?_)
 ·have ht:=List.take_succ_eq_append_getElem hlt
  have hi:=ih () trivial
  have hp:=hs.proc _ (List.getElem_mem hlt)
  simp only [Nat.add_eq_zero_iff,Nat.one_ne_zero,and_false,if_false,ht,List.map_append,List.map_cons,List.map_nil] at hi
  rcases i with _ | i
  ·(try simp -implicitDefEqProofs (disch:=first|exact dd|fail)[Tryz.f122,hlt,cProc]);(repeat'((with_reducible first|(refine Br.out ?_ ?_<;>intro h<;>(try(have h0:=h;simp only[bH]at h)))|refine AC_snd (impl_copyCred _ s.procs[0].cred hp.groups) ?_|refine AC_snd (slices_CloneOpen _ s.procs[0].files hp.files) ?_|fail)<;>(try simp -implicitDefEqProofs (disch:=first|exact dd|fail)[Tryz.f122,hlt,cProc])))
   all_goals first | exact hi
  ·have hl:(List.map cProc (List.take (i + 1) s.procs)).length=i + 1:=by simp;omega
   generalize List.map cProc (List.take (i + 1) s.procs)=G at *
   have hG:List.take (i + 1) G=G:=List.take_of_length_le (by omega)
   (try simp -implicitDefEqProofs (disch:=first|exact dd|fail)[Tryz.f122,hlt,hG,hl,cProc]);(repeat'((with_reducible first|(refine Br.out ?_ ?_<;>intro h<;>(try(have h0:=h;simp only[bH]at h)))|refine AC_snd (impl_copyCred _ s.procs[i + 1].cred hp.groups) ?_|refine AC_snd (slices_CloneOpen _ s.procs[i + 1].files hp.files) ?_|fail)<;>(try simp -implicitDefEqProofs (disch:=first|exact dd|fail)[Tryz.f122,hlt,hG,hl,cProc])))
   all_goals first | (simp [cProc] at hi;exact hi)
 ·rcases Nat.eq_zero_or_pos s.procs.length with h0 | h0
  ·have h1:s.procs = []:=List.length_eq_zero_iff.1 h0
   (try simp -implicitDefEqProofs (disch:=first|exact dd|fail)[Tryz.f122,h1]);(repeat'((with_reducible first|(refine Br.out ?_ ?_<;>intro h<;>(try(have h0:=h;simp only[bH]at h)))|fail)<;>(try simp -implicitDefEqProofs (disch:=first|exact dd|fail)[Tryz.f122,h1])))
  ·have h1:¬ s.procs.length=0:=by omega
   have h2:¬ s.procs = []:=fun e=>h1 (by rw [e];rfl)
   simp only [h1,if_false,List.take_length]
   (try simp -implicitDefEqProofs (disch:=first|exact dd|fail)[Tryz.f122,h2]);(repeat'((with_reducible first|(refine Br.out ?_ ?_<;>intro h<;>(try(have h0:=h;simp only[bH]at h)))|fail)<;>(try simp -implicitDefEqProofs (disch:=first|exact dd|fail)[Tryz.f122,h2])))
theorem spec_l16Copy (n1 n2 n3 n4:Option Bool) (s:DSystem) (hs:SmS s):Snd Tryz.prog 119 [fSystem n1 n2 n3 n4 s] (rSystem s) [.unk]:=Runs.snd (M:=M) (c:=⟨1,[1,2,3,5,11,12,13,14],[],[(1,[0,1,2,3,11,12,13,14])]⟩) tok ks mixed Tryz.func119 (p := []) (by kernel_rfl) (by rfl) (by rfl) <| by
 have k1:=hs.procs
 (try simp -implicitDefEqProofs (disch:=first|exact dd|fail)[Tryz.f119]);(repeat'((with_reducible first|(refine Br.out ?_ ?_<;>intro h<;>(try(have h0:=h;simp only[bH]at h)))|refine AC_snd (spec_l08Copy _ _ _ s.fs hs.fs) ?_|fail)<;>(try simp -implicitDefEqProofs (disch:=first|exact dd|fail)[Tryz.f119])))
 refine AL_fors (σ:=Unit) 13 s.procs.length (fun _ _ => []) (fun i _=>if i=0 then [] else [(384, .box [.int .i64 s.fs.tick, .ref 388 none 2 0 s.fs.quotas.length none, .ref 390 none 10 0 s.fs.inodes.length none, .ref 392 none 1 0 s.fs.data.length none, .ref 394 none 4 0 i none]),(394, .row 4 ((s.procs.take i).map cProc) [])]) (fun _ _=>True) () rfl trivial (fun i _ n hlt _ ih => ?_) (fun _ n _ => ?_)
 ·have ht:=List.take_succ_eq_append_getElem hlt
  have hi:=ih () trivial
  have hp:=hs.proc _ (List.getElem_mem hlt)
  have hpf:=hp.files
  simp only [Nat.add_eq_zero_iff,Nat.one_ne_zero,and_false,if_false,ht,List.map_append,List.map_cons,List.map_nil] at hi
  rcases i with _ | i
  ·(try simp -implicitDefEqProofs (disch:=first|exact dd|fail)[Tryz.f119,hlt,cProc]);(repeat'((with_reducible first|(refine Br.out ?_ ?_<;>intro h<;>(try(have h0:=h;simp only[bH]at h)))|refine AC_snd (spec_l06Copy _ s.procs[0].cred hp.groups) ?_|fail)<;>(try simp -implicitDefEqProofs (disch:=first|exact dd|fail)[Tryz.f119,hlt,cProc])))
   all_goals first | exact hi
  ·have hl:(List.map cProc (List.take (i + 1) s.procs)).length=i + 1:=by simp;omega
   generalize List.map cProc (List.take (i + 1) s.procs)=G at *
   have hG:List.take (i + 1) G=G:=List.take_of_length_le (by omega)
   (try simp -implicitDefEqProofs (disch:=first|exact dd|fail)[Tryz.f119,hlt,hG,hl,cProc]);(repeat'((with_reducible first|(refine Br.out ?_ ?_<;>intro h<;>(try(have h0:=h;simp only[bH]at h)))|refine AC_snd (spec_l06Copy _ s.procs[i + 1].cred hp.groups) ?_|fail)<;>(try simp -implicitDefEqProofs (disch:=first|exact dd|fail)[Tryz.f119,hlt,hG,hl,cProc])))
   all_goals first | (simp [cProc] at hi;exact hi)
 ·rcases Nat.eq_zero_or_pos s.procs.length with h0 | h0
  ·have h1:s.procs = []:=List.length_eq_zero_iff.1 h0
   (try simp -implicitDefEqProofs (disch:=first|exact dd|fail)[Tryz.f119,h1]);(repeat'((with_reducible first|(refine Br.out ?_ ?_<;>intro h<;>(try(have h0:=h;simp only[bH]at h)))|fail)<;>(try simp -implicitDefEqProofs (disch:=first|exact dd|fail)[Tryz.f119,h1])))
  ·have h1:¬ s.procs.length=0:=by omega
   have h2:¬ s.procs = []:=fun e=>h1 (by rw [e];rfl)
   simp only [h1,if_false,List.take_length]
   (try simp -implicitDefEqProofs (disch:=first|exact dd|fail)[Tryz.f119,h2]);(repeat'((with_reducible first|(refine Br.out ?_ ?_<;>intro h<;>(try(have h0:=h;simp only[bH]at h)))|fail)<;>(try simp -implicitDefEqProofs (disch:=first|exact dd|fail)[Tryz.f119,h2])))
end Go.Proofs.YtgopfdninbknpaaGreat
