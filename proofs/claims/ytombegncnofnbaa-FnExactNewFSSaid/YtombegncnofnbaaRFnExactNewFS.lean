/- whatever list of quotas is handed in, the law FnExactNewFS answers true and leaves its argument as it was. -/
import Derived.Test.YtombegncnofnbaaWNewFS
import Derived.Test.YtombegncnofnbaaRows
import Derived.Test.YtombegncnofnbaaJP
import Derived.ChangeSame
namespace Go.Proofs.Ytombegncnofnbaa
open Go.Fw Go.ChangeShapes Go.WideShapes Go.ChangeAt Go.RowKit
set_option linter.unusedVariables false
set_option linter.unusedSimpArgs false
section
variable {H:Type} {enc:TypeId × Value→H} {W:World}
set_option maxRecDepth 100000 in
theorem rd_int:Rd enc Try.prog W 3 1 (fun zs=>∃ n:Int,zs = [.int .i64 n]∧(Lit.int .i64 n).wf=true):=Rd.int Try.underlying3 (by kernel_rfl)
set_option maxRecDepth 100000 in
theorem rd_lQuota:Rd enc Try.prog W 45 2 (fun zs=>∃ y:DQuota,zs=cQuota y∧True):=by
 have h:=Rd.struct (enc:=enc) (w:=W) Try.underlying45 (.cons rd_int (.cons rd_int .nil rfl) rfl) (by kernel_rfl)
 refine h.mono ?_
 rintro _ ⟨_,_,rfl,⟨v0,rfl,-⟩,_,_,rfl,⟨v1,rfl,-⟩,rfl⟩
 exact ⟨⟨v0,v1⟩,rfl,trivial⟩
set_option maxRecDepth 100000 in
theorem rd_LQuota:Rd enc Try.prog W 22 1 (fun zs=>∃ l:List DQuota,zs = [.row 2 (l.map cQuota)]∧l.length≤maxLen∧∀ y ∈ l,True):=
 Rd.slice_of Try.underlying22 (by kernel_rfl) (by decide) rd_lQuota
theorem args_FnExactNewFS:ArgsM enc Try.prog W Try.f3.params.toList (fun zs=>∃ (a0:List DQuota),a0.length≤maxLen∧zs = [.frz 2 none (a0.map cQuota)]):=
 (Args.cons (Arg.slice Try.underlying22 rd_LQuota) (Args.nil)).mono (by
  rintro _ ⟨_,_,rfl,⟨_,⟨a0,⟨⟩,h0,-⟩,rfl⟩,rfl⟩
  exact ⟨a0,h0,rfl⟩)
end
set_option maxHeartbeats 20000000 in
theorem fnExactNewFS_lifted (os:Os) (started:os.Started) (H:Type) (enc:TypeId × Value→H) :
  ReturnsInHanded {} Try.checked os 3 .any (Rows.fnExactNewFSSpec.pre6 enc Try.prog Try.f3 Rows.fnExactNewFSRow.domain false) (Rows.fnExactNewFSSpec.post enc Try.prog Try.f3 false true false false):=
 law_lifted (C:=Try.checked) enc (by kernel_rfl) started (by kernel_rfl) Try.func3 rfl (by kernel_rfl) (by kernel_rfl) rfl (by kernel_rfl) rfl Try.underlying4
  (fun ds h=>by match ds,h with | [d0],_=>rfl)
  (ChangeSpec.witness6 (enc:=enc) (C:=Try.checked) false ⟨#[],#[.slice none 0 0],[]⟩ 8 (by kernel_rfl) (by kernel_rfl) (by kernel_rfl) (by kernel_rfl))
  (fun W=>args_FnExactNewFS) (by
   rintro _ ⟨a0,h0,rfl⟩
   exact ⟨_,laws_FnExactNewFS _ a0 h0⟩)
set_option maxHeartbeats 20000000 in
theorem fnExactNewFS_holds:Rows.FnExactNewFSSaid:=
 OpenClaim.holds_of_wide 3 Try.f3 rfl rfl rfl rfl rfl rfl rfl ⟨rfl,rfl,rfl,rfl,rfl⟩ rfl rfl rfl rfl rfl (by kernel_rfl) Try.func3 (joined_of (by as_aux_lemma=>kernel_rfl) jp1 jp2 (by as_aux_lemma=>kernel_rfl) (by as_aux_lemma=>kernel_rfl) (by as_aux_lemma=>kernel_rfl) (by as_aux_lemma=>kernel_rfl) (by as_aux_lemma=>kernel_rfl) (by as_aux_lemma=>kernel_rfl) (by as_aux_lemma=>kernel_rfl) (by as_aux_lemma=>kernel_rfl) (by as_aux_lemma=>kernel_rfl) (by as_aux_lemma=>kernel_rfl) (by as_aux_lemma=>kernel_rfl) (by as_aux_lemma=>kernel_rfl) (by as_aux_lemma=>kernel_rfl) (by as_aux_lemma=>kernel_rfl) (by as_aux_lemma=>kernel_rfl) (by as_aux_lemma=>kernel_rfl) (by as_aux_lemma=>kernel_rfl) (by as_aux_lemma=>kernel_rfl) (by as_aux_lemma=>kernel_rfl) (by as_aux_lemma=>kernel_rfl) (by as_aux_lemma=>kernel_rfl) jp24 jp25 (lift_of jp26 rfl) (by as_aux_lemma=>kernel_rfl) (by as_aux_lemma=>kernel_rfl) (by as_aux_lemma=>kernel_rfl) (by as_aux_lemma=>kernel_rfl) (by as_aux_lemma=>kernel_rfl))
  (of_decide_eq_true (by kernel_rfl)) (by unfold Func.isWrapper;first | (rw [if_pos (by decide +kernel)];kernel_rfl) | (rw [if_neg (by decide +kernel)];exact ⟨rfl,rfl⟩))
  (fun os started H enc _=>fnExactNewFS_lifted os started H enc)
#print axioms fnExactNewFS_holds
end Go.Proofs.Ytombegncnofnbaa
