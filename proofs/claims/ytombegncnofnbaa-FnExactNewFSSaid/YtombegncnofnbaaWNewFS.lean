import Derived.Test.YtombegncnofnbaaWC
import Derived.Test.YtombegncnofnbaaP08n
namespace Go.Proofs.Ytombegncnofnbaa
open Go.Fw
set_option linter.unusedVariables false
set_option linter.unusedSimpArgs false
set_option maxHeartbeats 8000000
set_option maxRecDepth 8000
theorem newF_sm {q:List DQuota}:SmFS (newF q)∧(1:Int) + ntFS (newF q)≤16777216:=by
 unfold newF
 split
 ·rename_i h
  have ht:=tiny_of (tr_iff.1 h)
  exact ⟨ht.sm,by have:=ht.nt;omega⟩
 ·exact ⟨⟨by simp,by simp,by simp,by simp⟩,by decide⟩
theorem laws_FnExactNewFS (n1:Option Bool) (q:List DQuota) (h1:q.length≤maxLen):Snd Try.prog 3 [.frz 2 n1 (q.map cQuota)] (.bool true) [.unk]:=Runs.snd (M:=M) (c:=⟨1,[2,3,4,5,6,7,8,9,10,15,26,31,42,50,53,60,65,68],[],[]⟩) tok ks mixed Try.func3 (p := []) (by kernel_rfl) (by rfl) (by rfl) <| by
 (try simp -implicitDefEqProofs (disch:=first|exact dd|fail)[Try.f3]);(repeat'((with_reducible first|(refine Br.out ?_ ?_<;>intro h<;>(try(have h0:=h;simp only[bH]at h)))|refine AC_snd (laws_szQuotaS _ q _ (by omega) (by omega) h1) ?_|fail)<;>(try simp -implicitDefEqProofs (disch:=first|exact dd|fail)[Try.f3])))
 have q1:=szR_ge (Int.not_lt.1 (by assumption))
 have hl:q.length≤1048576:=by omega
 have cS:=fun a=>spec_NewFSq a q hl
 have cI:=fun a=>impl_NewFS a q hl
 obtain ⟨sm2,m2⟩:=newF_sm (q:=q)
 have hn2:=nLQuota_eq q
 generalize newF q=g at *
 (try simp -implicitDefEqProofs (disch:=first|exact dd|fail)[Try.f3,mkL_len]);(repeat'((with_reducible first|(refine Br.out ?_ ?_<;>intro h<;>(try(have h0:=h;simp only[bH]at h)))|refine AC_snd (laws_toQuotaS _ q hl) ?_|refine AC_snd (cS _) ?_|refine AC_snd (cI _) ?_|refine AC_snd (laws_eqFS _ _ _ _ _ _ g _ sm2) ?_|refine AC_snd (laws_eqQuotaS _ _ q _ hl) ?_|refine AC_snd (laws_markQuotaS q _ hl (by omega) (by omega)) ?_|refine AC_snd (laws_markFS g _ sm2 (by omega) m2) ?_|refine AC_snd (laws_heldFS _ _ _ g _ sm2 (by omega) m2) ?_|fail)<;>(try simp -implicitDefEqProofs (disch:=first|exact dd|fail)[Try.f3,mkL_len])))
end Go.Proofs.Ytombegncnofnbaa
