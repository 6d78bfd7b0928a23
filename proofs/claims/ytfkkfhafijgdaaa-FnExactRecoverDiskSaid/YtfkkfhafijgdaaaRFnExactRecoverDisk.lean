/- whatever disk is handed in, the law FnExactRecoverDisk answers true and leaves its argument as it was. -/
import Derived.Test.YtfkkfhafijgdaaaWRecoverDisk
import Derived.Test.YtfkkfhafijgdaaaRows
import Derived.Test.YtfkkfhafijgdaaaJP
import Derived.ChangeSame
namespace Go.Proofs.Ytfkkfhafijgdaaa
open Go.Fw Go.ChangeShapes Go.WideShapes Go.ChangeAt Go.RowKit
set_option linter.unusedVariables false
set_option linter.unusedSimpArgs false
section
variable {H:Type} {enc:TypeId × Value→H} {W:World}
set_option maxRecDepth 100000 in
theorem rd_str:Rd enc Try.prog W 9 1 (fun zs=>∃ l:List UInt8,zs = [.str l]∧l.length≤maxLen):=Rd.str Try.underlying9 (by kernel_rfl)
theorem rd_eString:Rd enc Try.prog W 9 1 (fun zs=>∃ y:Str,zs=cs y∧y.length≤maxLen):=rd_str.mono (by rintro _ ⟨n,rfl,h⟩;exact ⟨n,rfl,h⟩)
set_option maxRecDepth 100000 in
theorem rd_LString:Rd enc Try.prog W 25 1 (fun zs=>∃ l:List Str,zs = [.row 1 (l.map cs)]∧l.length≤maxLen∧∀ y ∈ l,y.length≤maxLen):=
 Rd.slice_of Try.underlying25 (by kernel_rfl) (by decide) rd_eString
set_option maxRecDepth 100000 in
theorem rd_int:Rd enc Try.prog W 3 1 (fun zs=>∃ n:Int,zs = [.int .i64 n]∧(Lit.int .i64 n).wf=true):=Rd.int Try.underlying3 (by kernel_rfl)
set_option maxRecDepth 100000 in
theorem rd_lWrite:Rd enc Try.prog W 177 2 (fun zs=>∃ y:DWrite,zs=cWrite y∧WfWrite y):=by
 have h:=Rd.struct (enc:=enc) (w:=W) Try.underlying177 (.cons rd_int (.cons rd_str .nil rfl) rfl) (by kernel_rfl)
 refine h.mono ?_
 rintro _ ⟨_,_,rfl,⟨v0,rfl,-⟩,_,_,rfl,⟨v1,rfl,h1⟩,rfl⟩
 exact ⟨⟨v0,v1⟩,rfl,⟨h1⟩⟩
set_option maxRecDepth 100000 in
theorem rd_LWrite:Rd enc Try.prog W 56 1 (fun zs=>∃ l:List DWrite,zs = [.row 2 (l.map cWrite)]∧l.length≤maxLen∧∀ y ∈ l,WfWrite y):=
 Rd.slice_of Try.underlying56 (by kernel_rfl) (by decide) rd_lWrite
set_option maxRecDepth 100000 in
theorem rd_lDisk:Rd enc Try.prog W 58 2 (fun zs=>∃ y:DDisk,zs = [.row 1 (y.secs.map cs), .row 2 (y.pend.map cWrite)]∧WfDisk y):=by
 have h:=Rd.struct (enc:=enc) (w:=W) Try.underlying58 (.cons rd_LString (.cons rd_LWrite .nil rfl) rfl) (by kernel_rfl)
 refine h.mono ?_
 rintro _ ⟨_,_,rfl,⟨v0,rfl,h0,g0⟩,_,_,rfl,⟨v1,rfl,h1,g1⟩,rfl⟩
 exact ⟨⟨v0,v1⟩,rfl,⟨h0,g0,h1,g1⟩⟩
theorem args_FnExactRecoverDisk:ArgsM enc Try.prog W Try.f7.params.toList (fun zs=>∃ (a0:DDisk),WfDisk a0∧zs = [.agg [.frz 1 none (a0.secs.map cs), .frz 2 none (a0.pend.map cWrite)]]):=
 (Args.cons (Arg.struct Try.underlying58 rd_lDisk) (Args.nil)).mono (by
  rintro _ ⟨_,_,rfl,⟨_,⟨a0,rfl,h0⟩,rfl⟩,rfl⟩
  exact ⟨a0,h0,rfl⟩)
end
set_option maxHeartbeats 20000000 in
theorem fnExactRecoverDisk_lifted (os:Os) (started:os.Started) (H:Type) (enc:TypeId × Value→H) :
  ReturnsInHanded {} Try.checked os 7 .any (Rows.fnExactRecoverDiskSpec.pre6 enc Try.prog Try.f7 Rows.fnExactRecoverDiskRow.domain false) (Rows.fnExactRecoverDiskSpec.post enc Try.prog Try.f7 false true false false):=
 law_lifted (C:=Try.checked) enc (by kernel_rfl) started (by kernel_rfl) Try.func7 rfl (by kernel_rfl) (by kernel_rfl) rfl (by kernel_rfl) rfl Try.underlying4
  (fun ds h=>by match ds,h with | [d0],_=>rfl)
  (ChangeSpec.witness6 (enc:=enc) (C:=Try.checked) false ⟨#[],#[.agg #[.slice none 0 0, .slice none 0 0]],[]⟩ 8 (by kernel_rfl) (by kernel_rfl) (by kernel_rfl) (by kernel_rfl))
  (fun W=>args_FnExactRecoverDisk) (by
   rintro _ ⟨a0,h0,rfl⟩
   exact ⟨_,laws_FnExactRecoverDisk _ _ a0 h0⟩)
set_option maxHeartbeats 20000000 in
theorem fnExactRecoverDisk_holds:Rows.FnExactRecoverDiskSaid:=
 OpenClaim.holds_of_wide 7 Try.f7 rfl rfl rfl rfl rfl rfl rfl ⟨rfl,rfl,rfl,rfl,rfl⟩ rfl rfl rfl rfl rfl (by kernel_rfl) Try.func7 (joined_of (by as_aux_lemma=>kernel_rfl) jp1 jp2 (by as_aux_lemma=>kernel_rfl) (by as_aux_lemma=>kernel_rfl) (by as_aux_lemma=>kernel_rfl) (by as_aux_lemma=>kernel_rfl) (by as_aux_lemma=>kernel_rfl) (by as_aux_lemma=>kernel_rfl) (by as_aux_lemma=>kernel_rfl) (by as_aux_lemma=>kernel_rfl) (by as_aux_lemma=>kernel_rfl) (by as_aux_lemma=>kernel_rfl) (by as_aux_lemma=>kernel_rfl) (by as_aux_lemma=>kernel_rfl) (by as_aux_lemma=>kernel_rfl) (by as_aux_lemma=>kernel_rfl) (by as_aux_lemma=>kernel_rfl) (by as_aux_lemma=>kernel_rfl) (by as_aux_lemma=>kernel_rfl) (by as_aux_lemma=>kernel_rfl) (by as_aux_lemma=>kernel_rfl) (by as_aux_lemma=>kernel_rfl) (by as_aux_lemma=>kernel_rfl) jp24 jp25 (lift_of jp26 rfl) (by as_aux_lemma=>kernel_rfl) (by as_aux_lemma=>kernel_rfl) (by as_aux_lemma=>kernel_rfl) (by as_aux_lemma=>kernel_rfl) (by as_aux_lemma=>kernel_rfl))
  (of_decide_eq_true (by kernel_rfl)) (by unfold Func.isWrapper;first | (rw [if_pos (by decide +kernel)];kernel_rfl) | (rw [if_neg (by decide +kernel)];exact ⟨rfl,rfl⟩))
  (fun os started H enc _=>fnExactRecoverDisk_lifted os started H enc)
#print axioms fnExactRecoverDisk_holds
end Go.Proofs.Ytfkkfhafijgdaaa
