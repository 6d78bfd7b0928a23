/- whatever system is handed in, the law FnExactBusyInodes answers true and leaves its argument as it was. -/
import Derived.Test.YtpofjodnljeegaaWBusyInodes
import Derived.Test.YtpofjodnljeegaaRows
import Derived.Test.YtpofjodnljeegaaJ
import Derived.ChangeSame
namespace Go.Proofs.Ytpofjodnljeegaa
open Go.Fw Go.ChangeShapes Go.WideShapes Go.ChangeAt Go.RowKit
set_option linter.unusedVariables false
set_option linter.unusedSimpArgs false
section
variable {H : Type} {enc : TypeId × Value → H} {W : World}
set_option maxRecDepth 100000 in
theorem rd_int : Rd enc Try.prog W 3 1 (fun zs => ∃ n : Int, zs = [.int .i64 n] ∧ (Lit.int .i64 n).wf = true) := Rd.int Try.underlying3 (by kernel_rfl)
set_option maxRecDepth 100000 in
theorem rd_lQuota : Rd enc Try.prog W 88 2 (fun zs => ∃ y : DQuota, zs = cQuota y ∧ True) := by
 have h := Rd.struct (enc := enc) (w := W) Try.underlying88 (.cons rd_int (.cons rd_int .nil rfl) rfl) (by kernel_rfl)
 refine h.mono ?_
 rintro _ ⟨_, _, rfl, ⟨v0, rfl, -⟩, _, _, rfl, ⟨v1, rfl, -⟩, rfl⟩
 exact ⟨⟨v0, v1⟩, rfl, trivial⟩
set_option maxRecDepth 100000 in
theorem rd_LQuota : Rd enc Try.prog W 22 1 (fun zs => ∃ l : List DQuota, zs = [.row 2 (l.map cQuota)] ∧ l.length ≤ maxLen ∧ ∀ y ∈ l, True) :=
 Rd.slice_of Try.underlying22 (by kernel_rfl) (by decide) rd_lQuota
theorem rd_eInt : Rd enc Try.prog W 3 1 (fun zs => ∃ y : Int, zs = ci y ∧ True) := rd_int.mono (by rintro _ ⟨n, rfl, -⟩; exact ⟨n, rfl, trivial⟩)
set_option maxRecDepth 100000 in
theorem rd_LInt : Rd enc Try.prog W 46 1 (fun zs => ∃ l : List Int, zs = [.row 1 (l.map ci)] ∧ l.length ≤ maxLen ∧ ∀ y ∈ l, True) :=
 Rd.slice_of Try.underlying46 (by kernel_rfl) (by decide) rd_eInt
set_option maxRecDepth 100000 in
theorem rd_lAclEntry : Rd enc Try.prog W 168 3 (fun zs => ∃ y : DAcl, zs = cAcl y ∧ True) := by
 have h := Rd.struct (enc := enc) (w := W) Try.underlying168 (.cons rd_int (.cons rd_int (.cons rd_int .nil rfl) rfl) rfl) (by kernel_rfl)
 refine h.mono ?_
 rintro _ ⟨_, _, rfl, ⟨v0, rfl, -⟩, _, _, rfl, ⟨v1, rfl, -⟩, _, _, rfl, ⟨v2, rfl, -⟩, rfl⟩
 exact ⟨⟨v0, v1, v2⟩, rfl, trivial⟩
set_option maxRecDepth 100000 in
theorem rd_LAclEntry : Rd enc Try.prog W 105 1 (fun zs => ∃ l : List DAcl, zs = [.row 3 (l.map cAcl)] ∧ l.length ≤ maxLen ∧ ∀ y ∈ l, True) :=
 Rd.slice_of Try.underlying105 (by kernel_rfl) (by decide) rd_lAclEntry
set_option maxRecDepth 100000 in
theorem rd_lInode : Rd enc Try.prog W 107 10 (fun zs => ∃ y : DInode, zs = cInode y ∧ WfInode y) := by
 have h := Rd.struct (enc := enc) (w := W) Try.underlying107 (.cons rd_int (.cons rd_int (.cons rd_int (.cons rd_int (.cons rd_int (.cons rd_int (.cons rd_int (.cons rd_LInt (.cons rd_LAclEntry (.cons rd_LAclEntry .nil rfl) rfl) rfl) rfl) rfl) rfl) rfl) rfl) rfl) rfl) (by kernel_rfl)
 refine h.mono ?_
 rintro _ ⟨_, _, rfl, ⟨v0, rfl, -⟩, _, _, rfl, ⟨v1, rfl, -⟩, _, _, rfl, ⟨v2, rfl, -⟩, _, _, rfl, ⟨v3, rfl, -⟩, _, _, rfl, ⟨v4, rfl, -⟩, _, _, rfl, ⟨v5, rfl, -⟩, _, _, rfl, ⟨v6, rfl, -⟩, _, _, rfl, ⟨v7, rfl, h7, -⟩, _, _, rfl, ⟨v8, rfl, h8, -⟩, _, _, rfl, ⟨v9, rfl, h9, -⟩, rfl⟩
 exact ⟨⟨v0, v1, v2, v3, v4, v5, v6, v7, v8, v9⟩, rfl, ⟨h7, h8, h9⟩⟩
set_option maxRecDepth 100000 in
theorem rd_LInode : Rd enc Try.prog W 23 1 (fun zs => ∃ l : List DInode, zs = [.row 10 (l.map cInode)] ∧ l.length ≤ maxLen ∧ ∀ y ∈ l, WfInode y) :=
 Rd.slice_of Try.underlying23 (by kernel_rfl) (by decide) rd_lInode
set_option maxRecDepth 100000 in
theorem rd_str : Rd enc Try.prog W 9 1 (fun zs => ∃ l : List UInt8, zs = [.str l] ∧ l.length ≤ maxLen) := Rd.str Try.underlying9 (by kernel_rfl)
theorem rd_eString : Rd enc Try.prog W 9 1 (fun zs => ∃ y : Str, zs = cs y ∧ y.length ≤ maxLen) := rd_str.mono (by rintro _ ⟨n, rfl, h⟩; exact ⟨n, rfl, h⟩)
set_option maxRecDepth 100000 in
theorem rd_LString : Rd enc Try.prog W 24 1 (fun zs => ∃ l : List Str, zs = [.row 1 (l.map cs)] ∧ l.length ≤ maxLen ∧ ∀ y ∈ l, y.length ≤ maxLen) :=
 Rd.slice_of Try.underlying24 (by kernel_rfl) (by decide) rd_eString
set_option maxRecDepth 100000 in
theorem rd_lFS : Rd enc Try.prog W 26 4 (fun zs => ∃ y : DFS, zs = [.int .i64 y.tick, .row 2 (y.quotas.map cQuota), .row 10 (y.inodes.map cInode), .row 1 (y.data.map cs)] ∧ WfFS y) := by
 have h := Rd.struct (enc := enc) (w := W) Try.underlying26 (.cons rd_int (.cons rd_LQuota (.cons rd_LInode (.cons rd_LString .nil rfl) rfl) rfl) rfl) (by kernel_rfl)
 refine h.mono ?_
 rintro _ ⟨_, _, rfl, ⟨v0, rfl, -⟩, _, _, rfl, ⟨v1, rfl, h1, -⟩, _, _, rfl, ⟨v2, rfl, h2, g2⟩, _, _, rfl, ⟨v3, rfl, h3, g3⟩, rfl⟩
 exact ⟨⟨v0, v1, v2, v3⟩, rfl, ⟨h1, h2, g2, h3, g3⟩⟩
set_option maxRecDepth 100000 in
theorem rd_lCred : Rd enc Try.prog W 130 3 (fun zs => ∃ y : DCred, zs = cCred y ∧ WfCred y) := by
 have h := Rd.struct (enc := enc) (w := W) Try.underlying130 (.cons rd_int (.cons rd_int (.cons rd_LInt .nil rfl) rfl) rfl) (by kernel_rfl)
 refine h.mono ?_
 rintro _ ⟨_, _, rfl, ⟨v0, rfl, -⟩, _, _, rfl, ⟨v1, rfl, -⟩, _, _, rfl, ⟨v2, rfl, h2, -⟩, rfl⟩
 exact ⟨⟨v0, v1, v2⟩, rfl, ⟨h2⟩⟩
set_option maxRecDepth 100000 in
theorem rd_lOpen : Rd enc Try.prog W 173 3 (fun zs => ∃ y : DOpen, zs = cOpen y ∧ True) := by
 have h := Rd.struct (enc := enc) (w := W) Try.underlying173 (.cons rd_int (.cons rd_int (.cons rd_int .nil rfl) rfl) rfl) (by kernel_rfl)
 refine h.mono ?_
 rintro _ ⟨_, _, rfl, ⟨v0, rfl, -⟩, _, _, rfl, ⟨v1, rfl, -⟩, _, _, rfl, ⟨v2, rfl, -⟩, rfl⟩
 exact ⟨⟨v0, v1, v2⟩, rfl, trivial⟩
set_option maxRecDepth 100000 in
theorem rd_LOpen : Rd enc Try.prog W 131 1 (fun zs => ∃ l : List DOpen, zs = [.row 3 (l.map cOpen)] ∧ l.length ≤ maxLen ∧ ∀ y ∈ l, True) :=
 Rd.slice_of Try.underlying131 (by kernel_rfl) (by decide) rd_lOpen
set_option maxRecDepth 100000 in
theorem rd_lProc : Rd enc Try.prog W 133 4 (fun zs => ∃ y : DProc, zs = cProc y ∧ WfProc y) := by
 have h := Rd.struct (enc := enc) (w := W) Try.underlying133 (.cons rd_lCred (.cons rd_LOpen .nil rfl) rfl) (by kernel_rfl)
 refine h.mono ?_
 rintro _ ⟨_, _, rfl, ⟨v0, rfl, h0⟩, _, _, rfl, ⟨v1, rfl, h1, -⟩, rfl⟩
 exact ⟨⟨v0, v1⟩, rfl, ⟨h0, h1⟩⟩
set_option maxRecDepth 100000 in
theorem rd_LProc : Rd enc Try.prog W 52 1 (fun zs => ∃ l : List DProc, zs = [.row 4 (l.map cProc)] ∧ l.length ≤ maxLen ∧ ∀ y ∈ l, WfProc y) :=
 Rd.slice_of Try.underlying52 (by kernel_rfl) (by decide) rd_lProc
set_option maxRecDepth 100000 in
theorem rd_lSystem : Rd enc Try.prog W 54 5 (fun zs => ∃ y : DSystem, zs = [.int .i64 y.fs.tick, .row 2 (y.fs.quotas.map cQuota), .row 10 (y.fs.inodes.map cInode), .row 1 (y.fs.data.map cs), .row 4 (y.procs.map cProc)] ∧ WfSystem y) := by
 have h := Rd.struct (enc := enc) (w := W) Try.underlying54 (.cons rd_lFS (.cons rd_LProc .nil rfl) rfl) (by kernel_rfl)
 refine h.mono ?_
 rintro _ ⟨_, _, rfl, ⟨v0, rfl, h0⟩, _, _, rfl, ⟨v1, rfl, h1, g1⟩, rfl⟩
 exact ⟨⟨v0, v1⟩, rfl, ⟨h0, h1, g1⟩⟩
theorem args_FnExactBusyInodes : ArgsM enc Try.prog W Try.f8.params.toList (fun zs => ∃ (a0 : DSystem), WfSystem a0 ∧ zs = [.agg [.int .i64 a0.fs.tick, .frz 2 none (a0.fs.quotas.map cQuota), .frz 10 none (a0.fs.inodes.map cInode), .frz 1 none (a0.fs.data.map cs), .frz 4 none (a0.procs.map cProc)]]) :=
 (Args.cons (Arg.struct Try.underlying54 rd_lSystem) (Args.nil)).mono (by
  rintro _ ⟨_, _, rfl, ⟨_, ⟨a0, rfl, h0⟩, rfl⟩, rfl⟩
  exact ⟨a0, h0, rfl⟩)
end
set_option maxHeartbeats 20000000 in
theorem fnExactBusyInodes_lifted (os : Os) (started : os.Started) (H : Type) (enc : TypeId × Value → H) :
  ReturnsInHanded {} Try.checked os 8 .any (Rows.fnExactBusyInodesSpec.pre6 enc Try.prog Try.f8 Rows.fnExactBusyInodesRow.domain false) (Rows.fnExactBusyInodesSpec.post enc Try.prog Try.f8 false true false false) :=
 law_lifted (C := Try.checked) enc (by kernel_rfl) started (by kernel_rfl) Try.func8 rfl (by kernel_rfl) (by kernel_rfl) rfl (by kernel_rfl) rfl Try.underlying4
  (fun ds h => by match ds, h with | [d0], _ => rfl)
  (ChangeSpec.witness6 (enc := enc) (C := Try.checked) false ⟨#[], #[.agg #[.int .i64 0, .slice none 0 0, .slice none 0 0, .slice none 0 0, .slice none 0 0]], []⟩ 8 (by kernel_rfl) (by kernel_rfl) (by kernel_rfl) (by kernel_rfl))
  (fun W => args_FnExactBusyInodes) (by
   rintro _ ⟨a0, h0, rfl⟩
   exact ⟨_, laws_FnExactBusyInodes _ _ _ _ a0 h0⟩)
set_option maxHeartbeats 20000000 in
theorem fnExactBusyInodes_holds : Rows.FnExactBusyInodesSaid :=
 OpenClaim.holds_of_wide 8 Try.f8 rfl rfl rfl rfl rfl rfl rfl ⟨rfl, rfl, rfl, rfl, rfl⟩ rfl rfl rfl rfl rfl (by kernel_rfl) Try.func8 (joined_of (by as_aux_lemma => kernel_rfl) (by as_aux_lemma => kernel_rfl) (by as_aux_lemma => kernel_rfl) (by as_aux_lemma => kernel_rfl) (by as_aux_lemma => kernel_rfl) (by as_aux_lemma => kernel_rfl) (by as_aux_lemma => kernel_rfl) (by as_aux_lemma => kernel_rfl) (by as_aux_lemma => kernel_rfl) (by as_aux_lemma => kernel_rfl) (by as_aux_lemma => kernel_rfl) (by as_aux_lemma => kernel_rfl) (by as_aux_lemma => kernel_rfl) (by as_aux_lemma => kernel_rfl) (by as_aux_lemma => kernel_rfl) (by as_aux_lemma => kernel_rfl) (by as_aux_lemma => kernel_rfl) (by as_aux_lemma => kernel_rfl) (by as_aux_lemma => kernel_rfl) (by as_aux_lemma => kernel_rfl) (by as_aux_lemma => kernel_rfl) (by as_aux_lemma => kernel_rfl) (by as_aux_lemma => kernel_rfl) (by as_aux_lemma => kernel_rfl) (by as_aux_lemma => kernel_rfl) (by as_aux_lemma => kernel_rfl) (by as_aux_lemma => kernel_rfl) (by as_aux_lemma => kernel_rfl) (by as_aux_lemma => kernel_rfl) (by as_aux_lemma => kernel_rfl) (by as_aux_lemma => kernel_rfl) (by as_aux_lemma => kernel_rfl))
  (of_decide_eq_true (by kernel_rfl)) (by unfold Func.isWrapper; first | (rw [if_pos (by decide +kernel)]; kernel_rfl) | (rw [if_neg (by decide +kernel)]; exact ⟨rfl, rfl⟩))
  (fun os started H enc _ => fnExactBusyInodes_lifted os started H enc)
#print axioms fnExactBusyInodes_holds
end Go.Proofs.Ytpofjodnljeegaa
