import Derived.Test.YtfkkfhafijgdaaaP14g
import Derived.Test.YtfkkfhafijgdaaaP14j
import Derived.Test.YtfkkfhafijgdaaaP12
namespace Go.Proofs.Ytfkkfhafijgdaaa
open Go.Fw
set_option linter.unusedVariables false
set_option linter.unusedSimpArgs false
set_option maxHeartbeats 1000000
set_option maxRecDepth 8000
noncomputable def moveO (f:DFS) (i u:Int):DFS × Int:=if isFS f && hasI f i then (if (moveP f i u).2=0 then (moveP f i u).1 else f,(moveP f i u).2) else (f,1)
theorem impl_MoveOwner1 (f:DFS) (i u:Int) (hs:SmF f) (hf:IsFS f) (hi:hasI f i=true):Snd Try.prog 63 [wFS f, .fptr [.int .i64 i], .fptr [.int .i64 u]] (.int .i64 (moveP f i u).2) [wFS (moveP f i u).1, .unk, .unk]:=Runs.snd (M:=M) (c:=⟨1,[1,2,4],[],[]⟩) tok ks mixed Try.func63 (p := [0]) (by kernel_rfl) (by rfl) (by rfl) <| by
 have hc:=impl_moveOwner f i u hs hf hi
 generalize moveP f i u=r at *
 obtain ⟨g,e⟩:=r
 (try simp -implicitDefEqProofs (disch:=first|exact dd|fail)[Try.f63]);(repeat'((with_reducible first|(refine Br.out ?_ ?_<;>intro h<;>(try(have h0:=h;simp only[bH]at h)))|refine AC_snd (hc) ?_|fail)<;>(try simp -implicitDefEqProofs (disch:=first|exact dd|fail)[Try.f63])))
theorem impl_changed_MoveOwner (n1 n2 n3:Option Bool) (f:DFS) (i u:Int) (hs:SmF f) (hf:IsFS f) (hi:hasI f i=true):Snd Try.prog 62 [fFS n1 n2 n3 f, .fn 63 [.fptr [.int .i64 i], .fptr [.int .i64 u]]] (.tup [rFS (if (moveP f i u).2=0 then (moveP f i u).1 else f), .int .i64 (moveP f i u).2]) [.unk, .unk]:=Runs.snd (M:=M) (c:=⟨2,[2,4,5,6,7,13],[],[]⟩) tok ks mixed Try.func62 (p := []) (by kernel_rfl) (by rfl) (by rfl) <| by
 have hc:=impl_MoveOwner1 f i u hs hf hi
 generalize moveP f i u=r at *
 obtain ⟨g,e⟩:=r
 by_cases he:e=0
 ·subst he
  simp only [if_true]
  (try simp -implicitDefEqProofs (disch:=first|exact dd|fail)[Try.f62]);(repeat'((with_reducible first|(refine Br.out ?_ ?_<;>intro h<;>(try(have h0:=h;simp only[bH]at h)))|refine AC_snd (impl_copyFS _ _ _ f hs) ?_|refine AC_snd (hc) ?_|fail)<;>(try simp -implicitDefEqProofs (disch:=first|exact dd|fail)[Try.f62])))
 ·simp only [he,if_false]
  (try simp -implicitDefEqProofs (disch:=first|exact dd|fail)[Try.f62,he]);(repeat'((with_reducible first|(refine Br.out ?_ ?_<;>intro h<;>(try(have h0:=h;simp only[bH]at h)))|refine AC_snd (impl_copyFS _ _ _ f hs) ?_|refine AC_snd (hc) ?_|fail)<;>(try simp -implicitDefEqProofs (disch:=first|exact dd|fail)[Try.f62,he])))
theorem impl_MoveOwner (n1 n2 n3:Option Bool) (f:DFS) (i u:Int) (hs:SmF f):Snd Try.prog 17 [fFS n1 n2 n3 f, .int .i64 i, .int .i64 u] (.tup [rFS (moveO f i u).1, .int .i64 (moveO f i u).2]) [.unk, .unk, .unk]:=Runs.snd (M:=M) (c:=⟨3,[3,4,5,6,7,11],[],[]⟩) tok ks mixed Try.func17 (p := []) (by kernel_rfl) (by rfl) (by rfl) <| by
 by_cases hu:(isFS f && hasI f i)=true
 ·have hu2:=Bool.and_eq_true_iff.1 hu
  rw [moveO,if_pos hu]
  (try simp -implicitDefEqProofs (disch:=first|exact dd|fail)[Try.f17,hu]);(repeat'((with_reducible first|(refine Br.out ?_ ?_<;>intro h<;>(try(have h0:=h;simp only[bH]at h)))|refine AC_snd (impl_inUse _ _ _ f _ hs) ?_|refine AC_snd (impl_changed_MoveOwner _ _ _ f i u hs (tr_iff.1 hu2.1) hu2.2) ?_|fail)<;>(try simp -implicitDefEqProofs (disch:=first|exact dd|fail)[Try.f17,hu])))
 ·have hu':(isFS f && hasI f i)=false:=by simpa using hu
  rw [moveO,if_neg hu]
  (try simp -implicitDefEqProofs (disch:=first|exact dd|fail)[Try.f17,hu']);(repeat'((with_reducible first|(refine Br.out ?_ ?_<;>intro h<;>(try(have h0:=h;simp only[bH]at h)))|refine AC_snd (impl_inUse _ _ _ f _ hs) ?_|refine AC_snd (impl_copyFS _ _ _ f hs) ?_|fail)<;>(try simp -implicitDefEqProofs (disch:=first|exact dd|fail)[Try.f17,hu'])))
end Go.Proofs.Ytfkkfhafijgdaaa
