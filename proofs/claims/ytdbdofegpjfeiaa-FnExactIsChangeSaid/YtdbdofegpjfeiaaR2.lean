/- Proved: whatever call is handed in, the law FnExactIsChange answers true and leaves its argument as it was: the program's IsChange and the reference's agree on every call. No condition beyond the given row's. -/
import Derived.Test.YtdbdofegpjfeiaaA2
import Derived.Test.YtdbdofegpjfeiaaRows
import Derived.ChangeSame
namespace Go.Proofs.Ytdbdofegpjfeiaa
open Go.Fw Go.ChangeShapes Go.WideShapes Go.ChangeAt Go.RowKit
set_option linter.unusedVariables false
set_option linter.unusedSimpArgs false
section
variable {H : Type} {enc : TypeId × Value → H} {W : World}
set_option maxRecDepth 100000 in
theorem rd_int : Rd enc Try.prog W 3 1 (fun zs => ∃ n : Int, zs = [.int .i64 n] ∧ (Lit.int .i64 n).wf = true) := Rd.int Try.underlying3 (by kernel_rfl)
set_option maxRecDepth 100000 in
theorem rd_str : Rd enc Try.prog W 9 1 (fun zs => ∃ l : List UInt8, zs = [.str l] ∧ l.length ≤ maxLen) := Rd.str Try.underlying9 (by kernel_rfl)
set_option maxRecDepth 100000 in
theorem rd_lacl : Rd enc Try.prog W 89 3 (fun zs => ∃ a : DAcl, zs = cAcl a ∧ True) := by
  have h := Rd.struct (enc := enc) (w := W) Try.underlying89 (.cons rd_int (.cons rd_int (.cons rd_int .nil rfl) rfl) rfl) (by kernel_rfl)
  refine h.mono ?_
  rintro _ ⟨_, _, rfl, ⟨a, rfl, -⟩, _, _, rfl, ⟨b, rfl, -⟩, _, _, rfl, ⟨c, rfl, -⟩, rfl⟩
  exact ⟨⟨a, b, c⟩, rfl, trivial⟩
set_option maxRecDepth 100000 in
theorem rd_lacls : Rd enc Try.prog W 28 1 (fun zs => ∃ l : List DAcl, zs = [.row 3 (l.map cAcl)] ∧ l.length ≤ maxLen ∧ ∀ x ∈ l, True) :=
  Rd.slice_of Try.underlying28 (by kernel_rfl) (by decide) rd_lacl
set_option maxRecDepth 100000 in
theorem rd_lcall : Rd enc Try.prog W 30 10 (fun zs => ∃ c : DCall, zs = cCall c ∧ WfCall c) := by
  have h := Rd.struct (enc := enc) (w := W) Try.underlying30 (.cons rd_int (.cons rd_int (.cons rd_str (.cons rd_str (.cons rd_int (.cons rd_int (.cons rd_int (.cons rd_str (.cons rd_lacls (.cons rd_lacls .nil rfl) rfl) rfl) rfl) rfl) rfl) rfl) rfl) rfl) rfl) (by kernel_rfl)
  refine h.mono ?_
  rintro _ ⟨_, _, rfl, ⟨a, rfl, -⟩, _, _, rfl, ⟨b, rfl, -⟩, _, _, rfl, ⟨c, rfl, hc⟩, _, _, rfl, ⟨d, rfl, hd⟩, _, _, rfl, ⟨e, rfl, -⟩, _, _, rfl, ⟨f, rfl, -⟩, _, _, rfl, ⟨g, rfl, -⟩, _, _, rfl, ⟨h, rfl, hh⟩, _, _, rfl, ⟨i, rfl, hi, -⟩, _, _, rfl, ⟨j, rfl, hj, -⟩, rfl⟩
  exact ⟨⟨a, b, c, d, e, f, g, h, i, j⟩, rfl, hc, hd, hh, hi, hj⟩
theorem args_IsChange : ArgsM enc Try.prog W Try.f4.params.toList (fun zs => ∃ c : DCall, WfCall c ∧ zs = [fCall none none c]) :=
  (Args.cons (Arg.struct Try.underlying30 rd_lcall) Args.nil).mono (by
    rintro _ ⟨_, _, rfl, ⟨_, ⟨c, rfl, h⟩, rfl⟩, rfl⟩
    exact ⟨c, h, rfl⟩)
end
theorem isChange_lifted (os : Os) (started : os.Started) (H : Type) (enc : TypeId × Value → H) :
    ReturnsInHanded {} Try.checked os 4 .any (Rows.fnExactIsChangeSpec.pre6 enc Try.prog Try.f4 Rows.fnExactIsChangeRow.domain false) (Rows.fnExactIsChangeSpec.post enc Try.prog Try.f4 false true false false) :=
  law_lifted (C := Try.checked) enc (by kernel_rfl) started (by kernel_rfl) Try.func4 rfl (by kernel_rfl) (by kernel_rfl) rfl (by kernel_rfl) rfl Try.underlying4
    (fun ds h => by match ds, h with | [d], _ => rfl)
    (ChangeSpec.witness6 (enc := enc) (C := Try.checked) false ⟨#[], #[.agg #[.int .i64 0, .int .i64 0, .string ByteArray.empty, .string ByteArray.empty, .int .i64 0, .int .i64 0, .int .i64 0, .string ByteArray.empty, .slice none 0 0, .slice none 0 0]], []⟩ 8 (by kernel_rfl) (by kernel_rfl) (by kernel_rfl) (by kernel_rfl))
    (fun W => args_IsChange) (by
      rintro _ ⟨c, h, rfl⟩
      exact ⟨_, laws_FnExactIsChange _ _ c h⟩)
theorem fnExactIsChange_holds : Rows.FnExactIsChangeSaid :=
  OpenClaim.holds_of_wide 4 Try.f4 rfl rfl rfl rfl rfl rfl rfl ⟨rfl, rfl, rfl, rfl, rfl⟩ rfl rfl rfl rfl rfl (by kernel_rfl) Try.func4 (by kernel_rfl)
    (of_decide_eq_true (by kernel_rfl)) (by unfold Func.isWrapper; first | (rw [if_pos (by decide +kernel)]; kernel_rfl) | (rw [if_neg (by decide +kernel)]; exact ⟨rfl, rfl⟩))
    (fun os started H enc _ => isChange_lifted os started H enc)
#print axioms fnExactIsChange_holds
end Go.Proofs.Ytdbdofegpjfeiaa
