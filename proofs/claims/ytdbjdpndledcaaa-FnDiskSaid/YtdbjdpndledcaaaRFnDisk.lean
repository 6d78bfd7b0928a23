/- whatever bytes are handed in, the law FnDisk answers true and leaves its argument as it was. -/
import Derived.Test.YtdbjdpndledcaaaWFnDisk
import Derived.Test.YtdbjdpndledcaaaRows
import Derived.Test.YtdbjdpndledcaaaJP
import Derived.ChangeSame
namespace Go.Proofs.Ytdbjdpndledcaaa
open Go.Fw Go.ChangeShapes Go.WideShapes Go.ChangeAt Go.RowKit
set_option linter.unusedVariables false
set_option linter.unusedSimpArgs false
section
variable {H:Type} {enc:TypeId × Value→H} {W:World}
set_option maxRecDepth 100000 in
theorem rd_u8:Rd enc Try.prog W 5 1 (fun zs=>∃ y:UInt8,zs=cu y∧True):=(Rd.int Try.underlying5 (by kernel_rfl)).mono (by
  rintro _ ⟨n,rfl,h⟩
  have h2:IntKind.u8.min≤n∧n≤IntKind.u8.max:=by simpa [Lit.wf] using h
  have e1:IntKind.u8.min=0:=by decide
  have e2:IntKind.u8.max=255:=by decide
  have hn:0≤n∧n < 256:=by omega
  refine ⟨UInt8.ofNat n.toNat,?_,trivial⟩
  simp [cu]
  omega)
set_option maxRecDepth 100000 in
theorem rd_bytes:Rd enc Try.prog W 22 1 (fun zs=>∃ l:List UInt8,zs = [.row 1 (l.map cu)]∧l.length≤maxLen∧∀ y ∈ l,True):=
 Rd.slice_of Try.underlying22 (by kernel_rfl) (by decide) rd_u8
theorem args_FnDisk:ArgsM enc Try.prog W Try.f3.params.toList (fun zs=>∃ (a0:Str),a0.length≤maxLen∧zs = [.frz 1 none (a0.map cu)]):=
 (Args.cons (Arg.slice Try.underlying22 rd_bytes) (Args.nil)).mono (by
  rintro _ ⟨_,_,rfl,⟨_,⟨a0,⟨⟩,h0,-⟩,rfl⟩,rfl⟩
  exact ⟨a0,h0,rfl⟩)
end
set_option maxHeartbeats 20000000 in
theorem fnDisk_lifted (os:Os) (started:os.Started) (H:Type) (enc:TypeId × Value→H) :
  ReturnsInHanded {} Try.checked os 3 .any (Rows.fnDiskSpec.pre6 enc Try.prog Try.f3 Rows.fnDiskRow.domain false) (Rows.fnDiskSpec.post enc Try.prog Try.f3 false true false false):=
 law_lifted (C:=Try.checked) enc (by kernel_rfl) started (by kernel_rfl) Try.func3 rfl (by kernel_rfl) (by kernel_rfl) rfl (by kernel_rfl) rfl Try.underlying4
  (fun ds h=>by match ds,h with | [d0],_=>rfl)
  (ChangeSpec.witness6 (enc:=enc) (C:=Try.checked) false ⟨#[],#[.slice none 0 0],[]⟩ 8 (by kernel_rfl) (by kernel_rfl) (by kernel_rfl) (by kernel_rfl))
  (fun W=>args_FnDisk) (by
   rintro _ ⟨a0,h0,rfl⟩
   exact ⟨_,laws_FnDisk _ a0 h0⟩)
set_option maxHeartbeats 20000000 in
theorem fnDisk_holds:Rows.FnDiskSaid:=
 OpenClaim.holds_of_wide 3 Try.f3 rfl rfl rfl rfl rfl rfl rfl ⟨rfl,rfl,rfl,rfl,rfl⟩ rfl rfl rfl rfl rfl (by kernel_rfl) Try.func3 (joined_of (by as_aux_lemma=>kernel_rfl) jp1 jp2 (by as_aux_lemma=>kernel_rfl) (by as_aux_lemma=>kernel_rfl) (by as_aux_lemma=>kernel_rfl) (by as_aux_lemma=>kernel_rfl) (by as_aux_lemma=>kernel_rfl) (by as_aux_lemma=>kernel_rfl) (by as_aux_lemma=>kernel_rfl) (by as_aux_lemma=>kernel_rfl) (by as_aux_lemma=>kernel_rfl) (by as_aux_lemma=>kernel_rfl) (by as_aux_lemma=>kernel_rfl) (by as_aux_lemma=>kernel_rfl) (by as_aux_lemma=>kernel_rfl) (by as_aux_lemma=>kernel_rfl) (by as_aux_lemma=>kernel_rfl) (by as_aux_lemma=>kernel_rfl) (by as_aux_lemma=>kernel_rfl) (by as_aux_lemma=>kernel_rfl) (by as_aux_lemma=>kernel_rfl) (by as_aux_lemma=>kernel_rfl) (by as_aux_lemma=>kernel_rfl) jp24 jp25 (lift_of jp26 rfl) (by as_aux_lemma=>kernel_rfl) (by as_aux_lemma=>kernel_rfl) (by as_aux_lemma=>kernel_rfl) (by as_aux_lemma=>kernel_rfl) (by as_aux_lemma=>kernel_rfl))
  (of_decide_eq_true (by kernel_rfl)) (by unfold Func.isWrapper;first | (rw [if_pos (by decide +kernel)];kernel_rfl) | (rw [if_neg (by decide +kernel)];exact ⟨rfl,rfl⟩))
  (fun os started H enc _=>fnDisk_lifted os started H enc)
#print axioms fnDisk_holds
end Go.Proofs.Ytdbjdpndledcaaa
