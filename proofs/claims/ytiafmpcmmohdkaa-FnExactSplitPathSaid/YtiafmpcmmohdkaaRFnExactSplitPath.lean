/- whatever path is handed in, the law FnExactSplitPath answers true. -/
import Derived.Test.YtiafmpcmmohdkaaWSplitPath
import Derived.Test.YtiafmpcmmohdkaaRows
import Derived.Test.YtiafmpcmmohdkaaJ
import Derived.ChangeSame
namespace Go.Proofs.Ytiafmpcmmohdkaa
open Go.Fw Go.ChangeShapes Go.WideShapes Go.ChangeAt Go.RowKit
set_option linter.unusedVariables false
set_option linter.unusedSimpArgs false
section
variable {H : Type} {enc : TypeId × Value → H} {W : World}
set_option maxRecDepth 100000 in
theorem rd_str : Rd enc Try.prog W 9 1 (fun zs => ∃ l : List UInt8, zs = [.str l] ∧ l.length ≤ maxLen) := Rd.str Try.underlying9 (by kernel_rfl)
theorem args_FnExactSplitPath : ArgsM enc Try.prog W Try.f4.params.toList (fun zs => ∃ (a0 : Str), a0.length ≤ maxLen ∧ zs = [.str a0]) :=
 (Args.cons (Arg.str Try.underlying9) (Args.nil)).mono (by
  rintro _ ⟨_, _, rfl, ⟨a0, rfl, h0⟩, rfl⟩
  exact ⟨a0, h0, rfl⟩)
end
set_option maxHeartbeats 20000000 in
theorem fnExactSplitPath_lifted (os : Os) (started : os.Started) (H : Type) (enc : TypeId × Value → H) :
  ReturnsInHanded {} Try.checked os 4 .any (Rows.fnExactSplitPathSpec.pre6 enc Try.prog Try.f4 Rows.fnExactSplitPathRow.domain false) (Rows.fnExactSplitPathSpec.post enc Try.prog Try.f4 false true false false) :=
 law_lifted (C := Try.checked) enc (by kernel_rfl) started (by kernel_rfl) Try.func4 rfl (by kernel_rfl) (by kernel_rfl) rfl (by kernel_rfl) rfl Try.underlying4
  (fun ds h => by match ds, h with | [d0], _ => rfl)
  (ChangeSpec.witness6 (enc := enc) (C := Try.checked) false ⟨#[], #[.string ByteArray.empty], []⟩ 8 (by kernel_rfl) (by kernel_rfl) (by kernel_rfl) (by kernel_rfl))
  (fun W => args_FnExactSplitPath) (by
   rintro _ ⟨a0, h0, rfl⟩
   exact ⟨_, laws_FnExactSplitPath a0 h0⟩)
set_option maxHeartbeats 20000000 in
theorem fnExactSplitPath_holds : Rows.FnExactSplitPathSaid :=
 OpenClaim.holds_of_wide 4 Try.f4 rfl rfl rfl rfl rfl rfl rfl ⟨rfl, rfl, rfl, rfl, rfl⟩ rfl rfl rfl rfl rfl (by kernel_rfl) Try.func4 (joined_of (by as_aux_lemma => kernel_rfl) (by as_aux_lemma => kernel_rfl) (by as_aux_lemma => kernel_rfl) (by as_aux_lemma => kernel_rfl) (by as_aux_lemma => kernel_rfl) (by as_aux_lemma => kernel_rfl) (by as_aux_lemma => kernel_rfl) (by as_aux_lemma => kernel_rfl) (by as_aux_lemma => kernel_rfl) (by as_aux_lemma => kernel_rfl) (by as_aux_lemma => kernel_rfl) (by as_aux_lemma => kernel_rfl) (by as_aux_lemma => kernel_rfl) (by as_aux_lemma => kernel_rfl) (by as_aux_lemma => kernel_rfl) (by as_aux_lemma => kernel_rfl) (by as_aux_lemma => kernel_rfl) (by as_aux_lemma => kernel_rfl) (by as_aux_lemma => kernel_rfl) (by as_aux_lemma => kernel_rfl) (by as_aux_lemma => kernel_rfl) (by as_aux_lemma => kernel_rfl) (by as_aux_lemma => kernel_rfl) (by as_aux_lemma => kernel_rfl) (by as_aux_lemma => kernel_rfl) (by as_aux_lemma => kernel_rfl) (by as_aux_lemma => kernel_rfl) (by as_aux_lemma => kernel_rfl) (by as_aux_lemma => kernel_rfl) (by as_aux_lemma => kernel_rfl) (by as_aux_lemma => kernel_rfl) (by as_aux_lemma => kernel_rfl))
  (of_decide_eq_true (by kernel_rfl)) (by unfold Func.isWrapper; first | (rw [if_pos (by decide +kernel)]; kernel_rfl) | (rw [if_neg (by decide +kernel)]; exact ⟨rfl, rfl⟩))
  (fun os started H enc _ => fnExactSplitPath_lifted os started H enc)
#print axioms fnExactSplitPath_holds
end Go.Proofs.Ytiafmpcmmohdkaa
