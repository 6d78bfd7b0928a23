import Derived.Test.YtpdpcmgdfjpckaaP11j
import Derived.Test.YtpdpcmgdfjpckaaLA
namespace Go.Proofs.Ytpdpcmgdfjpckaa
open Go.Fw
set_option linter.unusedVariables false
set_option linter.unusedSimpArgs false
set_option maxHeartbeats 8000000
set_option maxRecDepth 8000
theorem joinT_length:∀ {xs:List Str},(joinT xs).length=wLString xs
 | []=>rfl
 | x :: xs=>by
  have ih:=joinT_length (xs:=xs)
  simp only [joinT,wLString,wList,List.flatMap_cons,List.length_append,List.length_cons] at *
  omega
theorem laws_FnExactJoinPath (n1:Option Bool) (xs:List Str) (h1:xs.length≤maxLen) (h2:∀ x ∈ xs,x.length≤maxLen):Snd Try.prog 3 [.frz 1 n1 (xs.map cs)] (.bool true) [.unk]:=Runs.snd (M:=M) (c:=⟨1,[2,3,4,5,6,11,21,26],[],[]⟩) tok ks mixed Try.func3 (p := []) (by kernel_rfl) (by rfl) (by rfl) <| by
 (try simp -implicitDefEqProofs (disch:=first|exact dd|fail)[Try.f3]);(repeat'((with_reducible first|(refine Br.out ?_ ?_<;>intro h<;>(try(have h0:=h;simp only[bH]at h)))|refine AC_snd (laws_szStringS _ xs _ (by omega) (by omega) h1 h2) ?_|fail)<;>(try simp -implicitDefEqProofs (disch:=first|exact dd|fail)[Try.f3])))
 have q1:=szR_ge (Int.not_lt.1 (by assumption))
 have hw:wLString xs≤1048576:=by omega
 have hj:(joinT xs).length≤1048576:=by rw [joinT_length];omega
 have hl:xs.length≤1048576:=by unfold wLString at hw;omega
 have hi:=fun n=>impl_JoinPath n xs hj hl
 have hs:=fun n=>spec_JoinPath n xs hj hl
 generalize joinP xs=R at *
 (try simp -implicitDefEqProofs (disch:=first|exact dd|fail)[Try.f3]);(repeat'((with_reducible first|(refine Br.out ?_ ?_<;>intro h<;>(try(have h0:=h;simp only[bH]at h)))|refine AC_snd (laws_toStringS _ xs hl) ?_|refine AC_snd (hs _) ?_|refine AC_snd (hi _) ?_|refine AC_snd (laws_eqStringS _ _ xs _ hl) ?_|fail)<;>(try simp -implicitDefEqProofs (disch:=first|exact dd|fail)[Try.f3])))
end Go.Proofs.Ytpdpcmgdfjpckaa
