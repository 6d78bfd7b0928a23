import Derived.Test.YtpdpcmgdfjpckaaLibI
import Derived.Test.YtpdpcmgdfjpckaaBx
import Derived.Test.YtpdpcmgdfjpckaaDat
namespace Go.Proofs.Ytpdpcmgdfjpckaa
open Go.Fw
set_option linter.unusedVariables false
set_option linter.unusedSimpArgs false
set_option maxHeartbeats 4000000
set_option maxRecDepth 8000
def joinT (l:List Str):Str:=l.flatMap (fun s=>47 :: s)
def joinP (l:List Str):Str:=if l.length=0 then [47] else joinT l
theorem joinT_take {l:List Str} {j:Nat} (h:j < l.length):joinT (l.take (j + 1))=joinT (l.take j)++47 :: l[j]:=by
 rw [List.take_succ_eq_append_getElem h,joinT,List.flatMap_append]
 simp [joinT]
theorem joinT_len {l:List Str} {j:Nat}:(joinT (l.take j)).length≤(joinT l).length:=by
 have h:joinT l=joinT (l.take j)++joinT (l.drop j):=by
  unfold joinT
  rw [←List.flatMap_append,List.take_append_drop]
 rw [h,List.length_append]
 omega
theorem join_slash:∀ {x:Str} {l:List Str},47 :: Lib.join (x :: l) [47]=joinT (x :: l)
 | x,[]=>by simp [Lib.join,joinT,List.intercalate]
 | x,y :: l=>by
  have ih:=join_slash (x:=y) (l:=l)
  have h1:Lib.join (x :: y :: l) [47]=x++47 :: Lib.join (y :: l) [47]:=by
   simp [Lib.join,List.intercalate,List.intersperse]
  rw [h1,ih]
  simp [joinT]
theorem impl_Join (nl:Option Bool) (xs:List Str) (l:Str) (h:(Lib.join xs l).length≤1048576) (hx:xs.length≤1048576):Snd Try.prog 9 [.frz 1 nl (xs.map cs), .str l] (.str (Lib.join xs l)) [.unk, .unk]:=Runs.snd (M:=M) (c:=⟨2,[4],[],[]⟩) tok ks mixed Try.func9 (p := []) (by kernel_rfl) (by rfl) (by rfl) <| by
 (try simp -implicitDefEqProofs (disch:=first|exact dd|fail)[Try.f9]);(repeat'((with_reducible first|(refine Br.out ?_ ?_<;>intro h<;>(try(have h0:=h;simp only[bH]at h)))|refine AC_snd (strings_Join _ xs l h hx) ?_|fail)<;>(try simp -implicitDefEqProofs (disch:=first|exact dd|fail)[Try.f9])))
theorem impl_JoinPath (nl:Option Bool) (xs:List Str) (h:(joinT xs).length≤1048576) (hx:xs.length≤1048576):Snd Try.prog 7 [.frz 1 nl (xs.map cs)] (.str (joinP xs)) [.unk]:=Runs.snd (M:=M) (c:=⟨1,[2,5],[],[]⟩) tok ks mixed Try.func7 (p := []) (by kernel_rfl) (by rfl) (by rfl) <| by
 unfold joinP
 cases xs with
 | nil=>
  (try simp -implicitDefEqProofs (disch:=first|exact dd|fail)[Try.f7]);(repeat'((with_reducible first|(refine Br.out ?_ ?_<;>intro h<;>(try(have h0:=h;simp only[bH]at h)))|fail)<;>(try simp -implicitDefEqProofs (disch:=first|exact dd|fail)[Try.f7])))
 | cons x l=>
  have hj:=join_slash (x:=x) (l:=l)
  rw [←hj,List.length_cons] at h
  have hc:=fun n=>impl_Join n (x :: l) [47] (by omega) hx
  rw [if_neg (by simp),←hj]
  generalize Lib.join (x :: l) [47]=J at *
  generalize hX:x :: l=X at *
  have hX0:¬ X.length=0:=by rw [←hX];simp
  have hle:1 + J.length≤1073741824:=by omega
  (try simp -implicitDefEqProofs (disch:=first|exact dd|fail)[Try.f7,hX0,hle]);(repeat'((with_reducible first|(refine Br.out ?_ ?_<;>intro h<;>(try(have h0:=h;simp only[bH]at h)))|refine AC_snd (hc _) ?_|fail)<;>(try simp -implicitDefEqProofs (disch:=first|exact dd|fail)[Try.f7,hX0,hle])))
theorem spec_JoinPath (nl:Option Bool) (xs:List Str) (h:(joinT xs).length≤1048576) (hx:xs.length≤1048576):Snd Try.prog 5 [.frz 1 nl (xs.map cs)] (.str (joinP xs)) [.unk]:=Runs.snd (M:=M) (c:=⟨1,[2,3,5,6,7,8,9,19],[],[(1,[0,2,3,6,7,8,9,19])]⟩) tok ks mixed Try.func5 (p := []) (by kernel_rfl) (by rfl) (by rfl) <| by
 obtain ⟨R,hR⟩:∃ R,R=joinP xs:=⟨_,rfl⟩
 rw [←hR]
 unfold joinP at hR
 (try simp -implicitDefEqProofs (disch:=first|exact dd|fail)[Try.f5]);(repeat'((with_reducible first|(refine Br.out ?_ ?_<;>intro h<;>(try(have h0:=h;simp only[bH]at h)))|fail)<;>(try simp -implicitDefEqProofs (disch:=first|exact dd|fail)[Try.f5])))
 refine AL_fors (σ:=Unit) 8 xs.length (fun j _ => [(3, .str (joinT (xs.take j)))]) (fun _ _ => []) (fun _ _=>True) () rfl trivial (fun j _ n hlt _ ih => ?_) (fun _ n _ => ?_)
 ·have hj:=ih () trivial
  rw [joinT_take hlt] at hj
  have hl:=joinT_len (l:=xs) (j:=j + 1)
  rw [joinT_take hlt,List.length_append,List.length_cons] at hl
  generalize joinT (xs.take j)=T at *
  have h1:T.length + 1≤1073741824:=by omega
  have h2:(T ++ [47]).length + xs[j].length≤1073741824:=by simp;omega
  have h3:T.length + 1 + xs[j].length≤1073741824:=by omega
  (try simp -implicitDefEqProofs (disch:=first|exact dd|fail)[Try.f5,hlt,h1,h2,h3]);(repeat'((with_reducible first|(refine Br.out ?_ ?_<;>intro h<;>(try(have h0:=h;simp only[bH]at h)))|fail)<;>(try simp -implicitDefEqProofs (disch:=first|exact dd|fail)[Try.f5,hlt,h1,h2,h3])))
  all_goals first | exact hj | (simpa using hj)
 ·rw [List.take_length]
  by_cases h0:xs.length=0
  ·rw [if_pos h0] at hR
   (try simp -implicitDefEqProofs (disch:=first|exact dd|fail)[Try.f5,h0,hR]);(repeat'((with_reducible first|(refine Br.out ?_ ?_<;>intro h<;>(try(have h0:=h;simp only[bH]at h)))|fail)<;>(try simp -implicitDefEqProofs (disch:=first|exact dd|fail)[Try.f5,h0,hR])))
  ·rw [if_neg h0] at hR
   (try simp -implicitDefEqProofs (disch:=first|exact dd|fail)[Try.f5,h0,hR]);(repeat'((with_reducible first|(refine Br.out ?_ ?_<;>intro h<;>(try(have h0:=h;simp only[bH]at h)))|fail)<;>(try simp -implicitDefEqProofs (disch:=first|exact dd|fail)[Try.f5,h0,hR])))
end Go.Proofs.Ytpdpcmgdfjpckaa
