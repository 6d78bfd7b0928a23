import Derived.Test.YtfkkfhafijgdaaaP14h
import Derived.Test.YtfkkfhafijgdaaaP14f
import Derived.Test.YtfkkfhafijgdaaaP14
namespace Go.Proofs.Ytfkkfhafijgdaaa
open Go.Fw
set_option linter.unusedVariables false
set_option linter.unusedSimpArgs false
set_option maxHeartbeats 1000000
set_option maxRecDepth 8000
theorem impl_ResizeFile1 (f:DFS) (i size:Int) (hs:SmF f) (hf:IsFS f) (hi:hasI f i=true) (hz:size≤9223372036854775807):Snd Try.prog 68 [wFS f, .fptr [.int .i64 i], .fptr [.int .i64 size]] (.int .i64 (resizeF f i size).2) [wFS (resizeF f i size).1, .unk, .unk]:=Runs.snd (M:=M) (c:=⟨1,[1,2,4],[],[]⟩) tok ks mixed Try.func68 (p := [0]) (by kernel_rfl) (by rfl) (by rfl) <| by
 have hc:=impl_resize f i size hs hf hi hz
 generalize resizeF f i size=r at *
 obtain ⟨g,e⟩:=r
 (try simp -implicitDefEqProofs (disch:=first|exact dd|fail)[Try.f68]);(repeat'((with_reducible first|(refine Br.out ?_ ?_<;>intro h<;>(try(have h0:=h;simp only[bH]at h)))|refine AC_snd (hc) ?_|fail)<;>(try simp -implicitDefEqProofs (disch:=first|exact dd|fail)[Try.f68])))
theorem resizeF_code (f:DFS) (i size:Int):(resizeF f i size).2≠0→(resizeF f i size).1=f:=by
 unfold resizeF
 split
 ·exact fun _=>rfl
 split
 ·exact fun _=>rfl
 ·exact fun h=>absurd rfl h
theorem impl_changed_ResizeFile (n1 n2 n3:Option Bool) (f:DFS) (i size:Int) (hs:SmF f) (hf:IsFS f) (hi:hasI f i=true) (hz:size≤9223372036854775807):Snd Try.prog 62 [fFS n1 n2 n3 f, .fn 68 [.fptr [.int .i64 i], .fptr [.int .i64 size]]] (.tup [rFS (resizeF f i size).1, .int .i64 (resizeF f i size).2]) [.unk, .unk]:=Runs.snd (M:=M) (c:=⟨2,[2,4,5,6,7,13],[],[]⟩) tok ks mixed Try.func62 (p := []) (by kernel_rfl) (by rfl) (by rfl) <| by
 have hc:=impl_ResizeFile1 f i size hs hf hi hz
 have hco:=resizeF_code f i size
 generalize resizeF f i size=r at *
 obtain ⟨g,e⟩:=r
 simp only at hco
 by_cases he:e=0
 ·subst he
  (try simp -implicitDefEqProofs (disch:=first|exact dd|fail)[Try.f62]);(repeat'((with_reducible first|(refine Br.out ?_ ?_<;>intro h<;>(try(have h0:=h;simp only[bH]at h)))|refine AC_snd (impl_copyFS _ _ _ f hs) ?_|refine AC_snd (hc) ?_|fail)<;>(try simp -implicitDefEqProofs (disch:=first|exact dd|fail)[Try.f62])))
 ·obtain rfl:=hco he
  (try simp -implicitDefEqProofs (disch:=first|exact dd|fail)[Try.f62,he]);(repeat'((with_reducible first|(refine Br.out ?_ ?_<;>intro h<;>(try(have h0:=h;simp only[bH]at h)))|refine AC_snd (impl_copyFS _ _ _ _ hs) ?_|refine AC_snd (hc) ?_|fail)<;>(try simp -implicitDefEqProofs (disch:=first|exact dd|fail)[Try.f62,he])))
theorem impl_ResizeFile (n1 n2 n3:Option Bool) (f:DFS) (i size:Int) (hs:SmF f) (hz:size≤9223372036854775807):Snd Try.prog 22 [fFS n1 n2 n3 f, .int .i64 i, .int .i64 size] (.tup [rFS (resizeO f i size).1, .int .i64 (resizeO f i size).2]) [.unk, .unk, .unk]:=Runs.snd (M:=M) (c:=⟨3,[3,4,5,6,7,11],[],[]⟩) tok ks mixed Try.func22 (p := []) (by kernel_rfl) (by rfl) (by rfl) <| by
 by_cases hu:(isFS f && hasI f i)=true
 ·have hu2:=Bool.and_eq_true_iff.1 hu
  rw [resizeO,if_pos hu]
  (try simp -implicitDefEqProofs (disch:=first|exact dd|fail)[Try.f22,hu]);(repeat'((with_reducible first|(refine Br.out ?_ ?_<;>intro h<;>(try(have h0:=h;simp only[bH]at h)))|refine AC_snd (impl_inUse _ _ _ f _ hs) ?_|refine AC_snd (impl_changed_ResizeFile _ _ _ f i size hs (tr_iff.1 hu2.1) hu2.2 hz) ?_|fail)<;>(try simp -implicitDefEqProofs (disch:=first|exact dd|fail)[Try.f22,hu])))
 ·have hu':(isFS f && hasI f i)=false:=by simpa using hu
  rw [resizeO,if_neg hu]
  (try simp -implicitDefEqProofs (disch:=first|exact dd|fail)[Try.f22,hu']);(repeat'((with_reducible first|(refine Br.out ?_ ?_<;>intro h<;>(try(have h0:=h;simp only[bH]at h)))|refine AC_snd (impl_inUse _ _ _ f _ hs) ?_|refine AC_snd (impl_copyFS _ _ _ f hs) ?_|fail)<;>(try simp -implicitDefEqProofs (disch:=first|exact dd|fail)[Try.f22,hu'])))
end Go.Proofs.Ytfkkfhafijgdaaa
