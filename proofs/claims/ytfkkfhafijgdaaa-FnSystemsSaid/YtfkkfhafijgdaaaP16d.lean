import Derived.Test.YtfkkfhafijgdaaaP16b
import Derived.Test.YtfkkfhafijgdaaaP16c
namespace Go.Proofs.Ytfkkfhafijgdaaa
open Go.Fw
set_option linter.unusedVariables false
set_option linter.unusedSimpArgs false
set_option maxHeartbeats 4000000
set_option maxRecDepth 8000
noncomputable def busyI (s:DSystem):List Int:=if isSystem s then busyT s.procs 20 else []
theorem impl_BusyInodes (n1 n2 n3 n4:Option Bool) (s:DSystem) (hs:SmS s):Snd Try.prog 13 [fSystem n1 n2 n3 n4 s] (.row 1 ((busyI s).map ci)) [.unk]:=Runs.snd (M:=M) (c:=⟨1,[1,2,3,4,7,9,10,13],[],[(1,[0,1,2,3,7,9,10,13])]⟩) tok ks mixed Try.func13 (p := []) (by kernel_rfl) (by rfl) (by rfl) <| by
 unfold busyI
 by_cases hb:isSystem s=true
 rotate_left
 ·have hb':isSystem s=false:=by simpa using hb
  rw [if_neg hb]
  (try simp -implicitDefEqProofs (disch:=first|exact dd|fail)[Try.f13,hb']);(repeat'((with_reducible first|(refine Br.out ?_ ?_<;>intro h<;>(try(have h0:=h;simp only[bH]at h)))|refine AC_snd (impl_IsSystem _ _ _ _ s hs) ?_|fail)<;>(try simp -implicitDefEqProofs (disch:=first|exact dd|fail)[Try.f13,hb'])))
 rw [if_pos hb]
 obtain ⟨R,hR⟩:∃ R,R=busyT s.procs 20:=⟨_,rfl⟩
 rw [←hR]
 (try simp -implicitDefEqProofs (disch:=first|exact dd|fail)[Try.f13,hb]);(repeat'((with_reducible first|(refine Br.out ?_ ?_<;>intro h<;>(try(have h0:=h;simp only[bH]at h)))|refine AC_snd (impl_IsSystem _ _ _ _ s hs) ?_|fail)<;>(try simp -implicitDefEqProofs (disch:=first|exact dd|fail)[Try.f13,hb])))
 refine AL_fors (σ:=Unit) 9 20 (fun i _ => [(3, .ref 384 none 1 0 (busyT s.procs i).length (some false))]) (fun i _ => [(384, .row 1 ((busyT s.procs i).map ci) [])]) (fun _ _=>True) () rfl trivial (fun i _ n hlt _ ih => ?_) (fun _ n _ => ?_)
 ·have hj:=ih () trivial
  have hl:=busyT_len (ps:=s.procs) (k:=i)
  have hb1:busyT s.procs (i + 1)=if openB s.procs i then busyT s.procs i ++ [(i:Int)] else busyT s.procs i:=rfl
  rw [hb1] at hj
  generalize busyT s.procs i=B at *
  by_cases ho:openB s.procs i=true
  ·rw [if_pos ho] at hj
   simp only [List.map_append,List.length_append,List.map_cons,List.map_nil,List.length_cons,List.length_nil,ci] at hj
   (try simp -implicitDefEqProofs (disch:=first|exact dd|fail)[Try.f13,hlt,ho]);(repeat'((with_reducible first|(refine Br.out ?_ ?_<;>intro h<;>(try(have h0:=h;simp only[bH]at h)))|refine AC_snd (impl_isOpen _ _ _ _ s _ hs) ?_|fail)<;>(try simp -implicitDefEqProofs (disch:=first|exact dd|fail)[Try.f13,hlt,ho])))
   all_goals exact hj
  ·have ho':openB s.procs i=false:=by simpa using ho
   rw [if_neg ho] at hj
   (try simp -implicitDefEqProofs (disch:=first|exact dd|fail)[Try.f13,hlt,ho']);(repeat'((with_reducible first|(refine Br.out ?_ ?_<;>intro h<;>(try(have h0:=h;simp only[bH]at h)))|refine AC_snd (impl_isOpen _ _ _ _ s _ hs) ?_|fail)<;>(try simp -implicitDefEqProofs (disch:=first|exact dd|fail)[Try.f13,hlt,ho'])))
   all_goals exact hj
 ·rw [←hR]
  (try simp -implicitDefEqProofs (disch:=first|exact dd|fail)[Try.f13]);(repeat'((with_reducible first|(refine Br.out ?_ ?_<;>intro h<;>(try(have h0:=h;simp only[bH]at h)))|fail)<;>(try simp -implicitDefEqProofs (disch:=first|exact dd|fail)[Try.f13])))
end Go.Proofs.Ytfkkfhafijgdaaa
