import Derived.Test.YtfkkfhafijgdaaaP04j
import Derived.Test.YtfkkfhafijgdaaaLDisk
namespace Go.Proofs.Ytfkkfhafijgdaaa
open Go.Fw
set_option linter.unusedVariables false
set_option linter.unusedSimpArgs false
theorem nLString_eq (xs:List Str):nLString xs=xs.length:=wList_one
theorem nLWrite_eq (xs:List DWrite):nLWrite xs=2 * xs.length:=by
 show wList (fun _=>2) xs=_
 induction xs with
 | nil=>rfl
 | cons x xs ih=>simp only [wList,ih,List.length_cons];omega
theorem ntDisk_eq (d:DDisk):ntDisk d=d.secs.length + 2 * d.pend.length:=by
 simp only [ntDisk,nLString_eq,nLWrite_eq]
theorem recov_len (d:DDisk):(recovD d).secs.length=d.secs.length∧(recovD d).pend.length≤max d.pend.length 400:=by
 unfold recovD runSt
 exact runSt_len
set_option maxHeartbeats 4000000 in
theorem laws_FnExactRecoverDisk (n1 n2:Option Bool) (d:DDisk) (hd:WfDisk d):Snd Try.prog 7 [fDisk n1 n2 d] (.bool true) [.unk]:=Runs.snd (M:=M) (c:=⟨1,[1,2,3,4,5,6,7,8,9,10,15,26,31,42,50,53,60,65,68],[],[]⟩) tok ks mixed Try.func7 (p := []) (by kernel_rfl) (by rfl) (by rfl) <| by
 (try simp -implicitDefEqProofs (disch:=first|exact dd|fail)[Try.f7]);(repeat'((with_reducible first|(refine Br.out ?_ ?_<;>intro h<;>(try(have h0:=h;simp only[bH]at h)))|refine AC_snd (laws_szDisk _ _ d _ (by omega) (by omega) hd) ?_|fail)<;>(try simp -implicitDefEqProofs (disch:=first|exact dd|fail)[Try.f7])))
 have hs':=szR_ge (Int.not_lt.1 (by assumption))
 have sm:SmDisk d:=smDisk_of (by omega)
 have hsec:=sm.hl_secs
 have hpen:=sm.hl_pend
 obtain ⟨l1,l2⟩:=recov_len d
 have m1:(1:Int) + ntDisk d≤16777216:=by rw [ntDisk_eq];omega
 have m2:(1:Int) + ntDisk (recovD d)≤16777216:=by rw [ntDisk_eq,l1];omega
 have sm2:SmDisk (recovD d):=⟨by omega,by omega⟩
 have cS:=fun a b=>spec_RecoverDisk a b d hsec hpen
 have cI:=fun a b=>impl_RecoverDisk a b d hsec hpen
 generalize recovD d=R at *
 (try simp -implicitDefEqProofs (disch:=first|exact dd|fail)[Try.f7,mkL_len]);(repeat'((with_reducible first|(refine Br.out ?_ ?_<;>intro h<;>(try(have h0:=h;simp only[bH]at h)))|refine AC_snd (laws_toDisk _ _ d sm) ?_|refine AC_snd (cS _ _) ?_|refine AC_snd (cI _ _) ?_|refine AC_snd (laws_eqDisk _ _ _ _ _ _ sm2) ?_|refine AC_snd (laws_eqDisk _ _ _ _ _ _ sm) ?_|refine AC_snd (laws_markDisk _ _ sm (by omega) m1) ?_|refine AC_snd (laws_markDisk _ _ sm2 (by omega) m2) ?_|refine AC_snd (laws_heldDisk _ _ _ _ sm2 (by omega) m2) ?_|fail)<;>(try simp -implicitDefEqProofs (disch:=first|exact dd|fail)[Try.f7,mkL_len])))
end Go.Proofs.Ytfkkfhafijgdaaa
