/- whatever disk, steps and number are handed in, the law FnExactRunSteps answers true and leaves its arguments as they were. -/
import Derived.Test.YtnidlanekanlbaaWRunSteps
import Derived.Test.YtnidlanekanlbaaRows
import Derived.Test.YtnidlanekanlbaaJ
import Derived.ChangeSame
namespace Go.Proofs.Ytnidlanekanlbaa
open Go.Fw Go.ChangeShapes Go.WideShapes Go.ChangeAt Go.RowKit
set_option linter.unusedVariables false
set_option linter.unusedSimpArgs false
section
variable {H : Type} {enc : TypeId × Value → H} {W : World}
set_option maxRecDepth 100000 in
theorem rd_str : Rd enc Try.prog W 9 1 (fun zs => ∃ l : List UInt8, zs = [.str l] ∧ l.length ≤ maxLen) := Rd.str Try.underlying9 (by kernel_rfl)
theorem rd_eString : Rd enc Try.prog W 9 1 (fun zs => ∃ y : Str, zs = cs y ∧ y.length ≤ maxLen) := rd_str.mono (by rintro _ ⟨n, rfl, h⟩; exact ⟨n, rfl, h⟩)
set_option maxRecDepth 100000 in
theorem rd_LString : Rd enc Try.prog W 22 1 (fun zs => ∃ l : List Str, zs = [.row 1 (l.map cs)] ∧ l.length ≤ maxLen ∧ ∀ y ∈ l, y.length ≤ maxLen) :=
  Rd.slice_of Try.underlying22 (by kernel_rfl) (by decide) rd_eString
set_option maxRecDepth 100000 in
theorem rd_int : Rd enc Try.prog W 3 1 (fun zs => ∃ n : Int, zs = [.int .i64 n] ∧ (Lit.int .i64 n).wf = true) := Rd.int Try.underlying3 (by kernel_rfl)
set_option maxRecDepth 100000 in
theorem rd_lWrite : Rd enc Try.prog W 109 2 (fun zs => ∃ y : DWrite, zs = cWrite y ∧ WfWrite y) := by
  have h := Rd.struct (enc := enc) (w := W) Try.underlying109 (.cons rd_int (.cons rd_str .nil rfl) rfl) (by kernel_rfl)
  refine h.mono ?_
  rintro _ ⟨_, _, rfl, ⟨v0, rfl, -⟩, _, _, rfl, ⟨v1, rfl, h1⟩, rfl⟩
  exact ⟨⟨v0, v1⟩, rfl, ⟨h1⟩⟩
set_option maxRecDepth 100000 in
theorem rd_LWrite : Rd enc Try.prog W 23 1 (fun zs => ∃ l : List DWrite, zs = [.row 2 (l.map cWrite)] ∧ l.length ≤ maxLen ∧ ∀ y ∈ l, WfWrite y) :=
  Rd.slice_of Try.underlying23 (by kernel_rfl) (by decide) rd_lWrite
set_option maxRecDepth 100000 in
theorem rd_lDisk : Rd enc Try.prog W 25 2 (fun zs => ∃ y : DDisk, zs = [.row 1 (y.secs.map cs), .row 2 (y.pend.map cWrite)] ∧ WfDisk y) := by
  have h := Rd.struct (enc := enc) (w := W) Try.underlying25 (.cons rd_LString (.cons rd_LWrite .nil rfl) rfl) (by kernel_rfl)
  refine h.mono ?_
  rintro _ ⟨_, _, rfl, ⟨v0, rfl, h0, g0⟩, _, _, rfl, ⟨v1, rfl, h1, g1⟩, rfl⟩
  exact ⟨⟨v0, v1⟩, rfl, ⟨h0, g0, h1, g1⟩⟩
set_option maxRecDepth 100000 in
theorem rd_bool : Rd enc Try.prog W 4 1 (fun zs => ∃ b : Bool, zs = [.bool b]) := Rd.bool Try.underlying4 (by kernel_rfl)
set_option maxRecDepth 100000 in
theorem rd_lStep : Rd enc Try.prog W 111 3 (fun zs => ∃ y : DStep, zs = cStep y ∧ WfStep y) := by
  have h := Rd.struct (enc := enc) (w := W) Try.underlying111 (.cons rd_bool (.cons rd_lWrite .nil rfl) rfl) (by kernel_rfl)
  refine h.mono ?_
  rintro _ ⟨_, _, rfl, ⟨v0, rfl⟩, _, _, rfl, ⟨v1, rfl, h1⟩, rfl⟩
  exact ⟨⟨v0, v1⟩, rfl, ⟨h1⟩⟩
set_option maxRecDepth 100000 in
theorem rd_LStep : Rd enc Try.prog W 26 1 (fun zs => ∃ l : List DStep, zs = [.row 3 (l.map cStep)] ∧ l.length ≤ maxLen ∧ ∀ y ∈ l, WfStep y) :=
  Rd.slice_of Try.underlying26 (by kernel_rfl) (by decide) rd_lStep
theorem args_FnExactRunSteps : ArgsM enc Try.prog W Try.f3.params.toList (fun zs => ∃ (a0 : DDisk), ∃ (a1 : List DStep), ∃ (a2 : Int), WfDisk a0 ∧ a1.length ≤ maxLen ∧ (∀ y ∈ a1, WfStep y) ∧ (Lit.int .i64 a2).wf = true ∧ zs = [.agg [.frz 1 none (a0.secs.map cs), .frz 2 none (a0.pend.map cWrite)], .frz 3 none (a1.map cStep), .int .i64 a2]) :=
  (Args.cons (Arg.struct Try.underlying25 rd_lDisk) (Args.cons (Arg.slice Try.underlying26 rd_LStep) (Args.cons (Arg.int Try.underlying3) (Args.nil)))).mono (by
    rintro _ ⟨_, _, rfl, ⟨_, ⟨a0, rfl, h0⟩, rfl⟩, _, _, rfl, ⟨_, ⟨a1, ⟨⟩, h1, g1⟩, rfl⟩, _, _, rfl, ⟨a2, rfl, h2⟩, rfl⟩
    exact ⟨a0, a1, a2, h0, h1, g1, h2, rfl⟩)
end
set_option maxHeartbeats 20000000 in
theorem fnExactRunSteps_lifted (os : Os) (started : os.Started) (H : Type) (enc : TypeId × Value → H) :
    ReturnsInHanded {} Try.checked os 3 .any (Rows.fnExactRunStepsSpec.pre6 enc Try.prog Try.f3 Rows.fnExactRunStepsRow.domain false) (Rows.fnExactRunStepsSpec.post enc Try.prog Try.f3 false true false false) :=
  law_lifted (C := Try.checked) enc (by kernel_rfl) started (by kernel_rfl) Try.func3 rfl (by kernel_rfl) (by kernel_rfl) rfl (by kernel_rfl) rfl Try.underlying4
    (fun ds h => by match ds, h with | [d0, d1, d2], _ => rfl)
    (ChangeSpec.witness6 (enc := enc) (C := Try.checked) false ⟨#[], #[.agg #[.slice none 0 0, .slice none 0 0], .slice none 0 0, .int .i64 0], []⟩ 8 (by kernel_rfl) (by kernel_rfl) (by kernel_rfl) (by kernel_rfl))
    (fun W => args_FnExactRunSteps) (by
      rintro _ ⟨a0, a1, a2, h0, h1, g1, h2, rfl⟩
      exact ⟨_, laws_FnExactRunSteps _ _ _ a0 a1 a2 h0 h1 g1 h2⟩)
set_option maxHeartbeats 20000000 in
theorem fnExactRunSteps_holds : Rows.FnExactRunStepsSaid :=
  OpenClaim.holds_of_wide 3 Try.f3 rfl rfl rfl rfl rfl rfl rfl ⟨rfl, rfl, rfl, rfl, rfl⟩ rfl rfl rfl rfl rfl (by kernel_rfl) Try.func3 (joined_of (by as_aux_lemma => kernel_rfl) (by as_aux_lemma => kernel_rfl) (by as_aux_lemma => kernel_rfl) (by as_aux_lemma => kernel_rfl) (by as_aux_lemma => kernel_rfl) (by as_aux_lemma => kernel_rfl) (by as_aux_lemma => kernel_rfl) (by as_aux_lemma => kernel_rfl) (by as_aux_lemma => kernel_rfl) (by as_aux_lemma => kernel_rfl) (by as_aux_lemma => kernel_rfl) (by as_aux_lemma => kernel_rfl) (by as_aux_lemma => kernel_rfl) (by as_aux_lemma => kernel_rfl) (by as_aux_lemma => kernel_rfl) (by as_aux_lemma => kernel_rfl) (by as_aux_lemma => kernel_rfl) (by as_aux_lemma => kernel_rfl) (by as_aux_lemma => kernel_rfl) (by as_aux_lemma => kernel_rfl) (by as_aux_lemma => kernel_rfl) (by as_aux_lemma => kernel_rfl) (by as_aux_lemma => kernel_rfl) (by as_aux_lemma => kernel_rfl) (by as_aux_lemma => kernel_rfl) (by as_aux_lemma => kernel_rfl) (by as_aux_lemma => kernel_rfl) (by as_aux_lemma => kernel_rfl) (by as_aux_lemma => kernel_rfl) (by as_aux_lemma => kernel_rfl) (by as_aux_lemma => kernel_rfl) (by as_aux_lemma => kernel_rfl))
    (of_decide_eq_true (by kernel_rfl)) (by unfold Func.isWrapper; first | (rw [if_pos (by decide +kernel)]; kernel_rfl) | (rw [if_neg (by decide +kernel)]; exact ⟨rfl, rfl⟩))
    (fun os started H enc _ => fnExactRunSteps_lifted os started H enc)
#print axioms fnExactRunSteps_holds
end Go.Proofs.Ytnidlanekanlbaa
