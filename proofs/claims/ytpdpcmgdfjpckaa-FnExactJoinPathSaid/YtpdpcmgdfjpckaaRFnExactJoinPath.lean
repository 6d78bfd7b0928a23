/- whatever list of names is handed in, the law FnExactJoinPath answers true and leaves its argument as it was. -/
import Derived.Test.YtpdpcmgdfjpckaaWJoinPath
import Derived.Test.YtpdpcmgdfjpckaaRows
import Derived.Test.YtpdpcmgdfjpckaaJP
import Derived.ChangeSame
namespace Go.Proofs.Ytpdpcmgdfjpckaa
open Go.Fw Go.ChangeShapes Go.WideShapes Go.ChangeAt Go.RowKit
set_option linter.unusedVariables false
set_option linter.unusedSimpArgs false
section
variable {H:Type} {enc:TypeId × Value→H} {W:World}
set_option maxRecDepth 100000 in
theorem rd_str:Rd enc Try.prog W 9 1 (fun zs=>∃ l:List UInt8,zs = [.str l]∧l.length≤maxLen):=Rd.str Try.underlying9 (by kernel_rfl)
theorem rd_eString:Rd enc Try.prog W 9 1 (fun zs=>∃ y:Str,zs=cs y∧y.length≤maxLen):=rd_str.mono (by rintro _ ⟨n,rfl,h⟩;exact ⟨n,rfl,h⟩)
set_option maxRecDepth 100000 in
theorem rd_LString:Rd enc Try.prog W 22 1 (fun zs=>∃ l:List Str,zs = [.row 1 (l.map cs)]∧l.length≤maxLen∧∀ y ∈ l,y.length≤maxLen):=
 Rd.slice_of Try.underlying22 (by kernel_rfl) (by decide) rd_eString
theorem args_FnExactJoinPath:ArgsM enc Try.prog W Try.f3.params.toList (fun zs=>∃ (a0:List Str),a0.length≤maxLen∧(∀ y ∈ a0,y.length≤maxLen)∧zs = [.frz 1 none (a0.map cs)]):=
 (Args.cons (Arg.slice Try.underlying22 rd_LString) (Args.nil)).mono (by
  rintro _ ⟨_,_,rfl,⟨_,⟨a0,⟨⟩,h0,g0⟩,rfl⟩,rfl⟩
  exact ⟨a0,h0,g0,rfl⟩)
end
set_option maxHeartbeats 20000000 in
theorem fnExactJoinPath_lifted (os:Os) (started:os.Started) (H:Type) (enc:TypeId × Value→H) :
  ReturnsInHanded {} Try.checked os 3 .any (Rows.fnExactJoinPathSpec.pre6 enc Try.prog Try.f3 Rows.fnExactJoinPathRow.domain false) (Rows.fnExactJoinPathSpec.post enc Try.prog Try.f3 false true false false):=
 law_lifted (C:=Try.checked) enc (by kernel_rfl) started (by kernel_rfl) Try.func3 rfl (by kernel_rfl) (by kernel_rfl) rfl (by kernel_rfl) rfl Try.underlying4
  (fun ds h=>by match ds,h with | [d0],_=>rfl)
  (ChangeSpec.witness6 (enc:=enc) (C:=Try.checked) false ⟨#[],#[.slice none 0 0],[]⟩ 8 (by kernel_rfl) (by kernel_rfl) (by kernel_rfl) (by kernel_rfl))
  (fun W=>args_FnExactJoinPath) (by
   rintro _ ⟨a0,h0,g0,rfl⟩
   exact ⟨_,laws_FnExactJoinPath _ a0 h0 g0⟩)
set_option maxHeartbeats 20000000 in
theorem fnExactJoinPath_holds:Rows.FnExactJoinPathSaid:=
 OpenClaim.holds_of_wide 3 Try.f3 rfl rfl rfl rfl rfl rfl rfl ⟨rfl,rfl,rfl,rfl,rfl⟩ rfl rfl rfl rfl rfl (by kernel_rfl) Try.func3 (joined_of (by as_aux_lemma=>kernel_rfl) jp1 jp2 (by as_aux_lemma=>kernel_rfl) (by as_aux_lemma=>kernel_rfl) (by as_aux_lemma=>kernel_rfl) (by as_aux_lemma=>kernel_rfl) (by as_aux_lemma=>kernel_rfl) (by as_aux_lemma=>kernel_rfl) (by as_aux_lemma=>kernel_rfl) (by as_aux_lemma=>kernel_rfl) (by as_aux_lemma=>kernel_rfl) (by as_aux_lemma=>kernel_rfl) (by as_aux_lemma=>kernel_rfl) (by as_aux_lemma=>kernel_rfl) (by as_aux_lemma=>kernel_rfl) (by as_aux_lemma=>kernel_rfl) (by as_aux_lemma=>kernel_rfl) (by as_aux_lemma=>kernel_rfl) (by as_aux_lemma=>kernel_rfl) (by as_aux_lemma=>kernel_rfl) (by as_aux_lemma=>kernel_rfl) (by as_aux_lemma=>kernel_rfl) (by as_aux_lemma=>kernel_rfl) jp24 jp25 (lift_of jp26 rfl) (by as_aux_lemma=>kernel_rfl) (by as_aux_lemma=>kernel_rfl) (by as_aux_lemma=>kernel_rfl) (by as_aux_lemma=>kernel_rfl) (by as_aux_lemma=>kernel_rfl))
  (of_decide_eq_true (by kernel_rfl)) (by unfold Func.isWrapper;first | (rw [if_pos (by decide +kernel)];kernel_rfl) | (rw [if_neg (by decide +kernel)];exact ⟨rfl,rfl⟩))
  (fun os started H enc _=>fnExactJoinPath_lifted os started H enc)
#print axioms fnExactJoinPath_holds
end Go.Proofs.Ytpdpcmgdfjpckaa
