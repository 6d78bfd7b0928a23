/- whatever arguments are handed in, the law FnExactNewObject answers true and leaves its arguments as they were. -/
import Derived.Test.YtgopfdninbknpaaGreatWCreate
import Derived.Test.YtgopfdninbknpaaGreatRows
import Derived.Test.YtgopfdninbknpaaGreatJP
import Derived.ChangeSame
namespace Go.Proofs.YtgopfdninbknpaaGreat
open Go.Fw Go.ChangeShapes Go.WideShapes Go.ChangeAt Go.RowKit
set_option linter.unusedVariables false
set_option linter.unusedSimpArgs false
section
variable {H:Type} {enc:TypeId × Value→H} {W:World}
set_option maxRecDepth 100000 in
theorem rd_int:Rd enc Tryz.prog W 3 1 (fun zs=>∃ n:Int,zs = [.int .i64 n]∧(Lit.int .i64 n).wf=true):=Rd.int Tryz.underlying3 (by kernel_rfl)
set_option maxRecDepth 100000 in
theorem rd_lQuota:Rd enc Tryz.prog W 178 2 (fun zs=>∃ y:DQuota,zs=cQuota y∧True):=by
 have h:=Rd.struct (enc:=enc) (w:=W) Tryz.underlying178 (.cons rd_int (.cons rd_int .nil rfl) rfl) (by kernel_rfl)
 refine h.mono ?_
 rintro _ ⟨_,_,rfl,⟨v0,rfl,-⟩,_,_,rfl,⟨v1,rfl,-⟩,rfl⟩
 exact ⟨⟨v0,v1⟩,rfl,trivial⟩
set_option maxRecDepth 100000 in
theorem rd_LQuota:Rd enc Tryz.prog W 22 1 (fun zs=>∃ l:List DQuota,zs = [.row 2 (l.map cQuota)]∧l.length≤maxLen∧∀ y ∈ l,True):=
 Rd.slice_of Tryz.underlying22 (by kernel_rfl) (by decide) rd_lQuota
theorem rd_eInt:Rd enc Tryz.prog W 3 1 (fun zs=>∃ y:Int,zs=ci y∧True):=rd_int.mono (by rintro _ ⟨n,rfl,-⟩;exact ⟨n,rfl,trivial⟩)
set_option maxRecDepth 100000 in
theorem rd_LInt:Rd enc Tryz.prog W 27 1 (fun zs=>∃ l:List Int,zs = [.row 1 (l.map ci)]∧l.length≤maxLen∧∀ y ∈ l,True):=
 Rd.slice_of Tryz.underlying27 (by kernel_rfl) (by decide) rd_eInt
set_option maxRecDepth 100000 in
theorem rd_lAclEntry:Rd enc Tryz.prog W 246 3 (fun zs=>∃ y:DAcl,zs=cAcl y∧True):=by
 have h:=Rd.struct (enc:=enc) (w:=W) Tryz.underlying246 (.cons rd_int (.cons rd_int (.cons rd_int .nil rfl) rfl) rfl) (by kernel_rfl)
 refine h.mono ?_
 rintro _ ⟨_,_,rfl,⟨v0,rfl,-⟩,_,_,rfl,⟨v1,rfl,-⟩,_,_,rfl,⟨v2,rfl,-⟩,rfl⟩
 exact ⟨⟨v0,v1,v2⟩,rfl,trivial⟩
set_option maxRecDepth 100000 in
theorem rd_LAclEntry:Rd enc Tryz.prog W 160 1 (fun zs=>∃ l:List DAcl,zs = [.row 3 (l.map cAcl)]∧l.length≤maxLen∧∀ y ∈ l,True):=
 Rd.slice_of Tryz.underlying160 (by kernel_rfl) (by decide) rd_lAclEntry
set_option maxRecDepth 100000 in
theorem rd_lInode:Rd enc Tryz.prog W 162 10 (fun zs=>∃ y:DInode,zs=cInode y∧WfInode y):=by
 have h:=Rd.struct (enc:=enc) (w:=W) Tryz.underlying162 (.cons rd_int (.cons rd_int (.cons rd_int (.cons rd_int (.cons rd_int (.cons rd_int (.cons rd_int (.cons rd_LInt (.cons rd_LAclEntry (.cons rd_LAclEntry .nil rfl) rfl) rfl) rfl) rfl) rfl) rfl) rfl) rfl) rfl) (by kernel_rfl)
 refine h.mono ?_
 rintro _ ⟨_,_,rfl,⟨v0,rfl,-⟩,_,_,rfl,⟨v1,rfl,-⟩,_,_,rfl,⟨v2,rfl,-⟩,_,_,rfl,⟨v3,rfl,-⟩,_,_,rfl,⟨v4,rfl,-⟩,_,_,rfl,⟨v5,rfl,-⟩,_,_,rfl,⟨v6,rfl,-⟩,_,_,rfl,⟨v7,rfl,h7,-⟩,_,_,rfl,⟨v8,rfl,h8,-⟩,_,_,rfl,⟨v9,rfl,h9,-⟩,rfl⟩
 exact ⟨⟨v0,v1,v2,v3,v4,v5,v6,v7,v8,v9⟩,rfl,⟨h7,h8,h9⟩⟩
set_option maxRecDepth 100000 in
theorem rd_LInode:Rd enc Tryz.prog W 23 1 (fun zs=>∃ l:List DInode,zs = [.row 10 (l.map cInode)]∧l.length≤maxLen∧∀ y ∈ l,WfInode y):=
 Rd.slice_of Tryz.underlying23 (by kernel_rfl) (by decide) rd_lInode
set_option maxRecDepth 100000 in
theorem rd_str:Rd enc Tryz.prog W 9 1 (fun zs=>∃ l:List UInt8,zs = [.str l]∧l.length≤maxLen):=Rd.str Tryz.underlying9 (by kernel_rfl)
theorem rd_eString:Rd enc Tryz.prog W 9 1 (fun zs=>∃ y:Str,zs=cs y∧y.length≤maxLen):=rd_str.mono (by rintro _ ⟨n,rfl,h⟩;exact ⟨n,rfl,h⟩)
set_option maxRecDepth 100000 in
theorem rd_LString:Rd enc Tryz.prog W 24 1 (fun zs=>∃ l:List Str,zs = [.row 1 (l.map cs)]∧l.length≤maxLen∧∀ y ∈ l,y.length≤maxLen):=
 Rd.slice_of Tryz.underlying24 (by kernel_rfl) (by decide) rd_eString
set_option maxRecDepth 100000 in
theorem rd_lFS:Rd enc Tryz.prog W 26 4 (fun zs=>∃ y:DFS,zs = [.int .i64 y.tick, .row 2 (y.quotas.map cQuota), .row 10 (y.inodes.map cInode), .row 1 (y.data.map cs)]∧WfFS y):=by
 have h:=Rd.struct (enc:=enc) (w:=W) Tryz.underlying26 (.cons rd_int (.cons rd_LQuota (.cons rd_LInode (.cons rd_LString .nil rfl) rfl) rfl) rfl) (by kernel_rfl)
 refine h.mono ?_
 rintro _ ⟨_,_,rfl,⟨v0,rfl,-⟩,_,_,rfl,⟨v1,rfl,h1,-⟩,_,_,rfl,⟨v2,rfl,h2,g2⟩,_,_,rfl,⟨v3,rfl,h3,g3⟩,rfl⟩
 exact ⟨⟨v0,v1,v2,v3⟩,rfl,⟨h1,h2,g2,h3,g3⟩⟩
set_option maxRecDepth 100000 in
theorem rd_lCred:Rd enc Tryz.prog W 29 3 (fun zs=>∃ y:DCred,zs=cCred y∧WfCred y):=by
 have h:=Rd.struct (enc:=enc) (w:=W) Tryz.underlying29 (.cons rd_int (.cons rd_int (.cons rd_LInt .nil rfl) rfl) rfl) (by kernel_rfl)
 refine h.mono ?_
 rintro _ ⟨_,_,rfl,⟨v0,rfl,-⟩,_,_,rfl,⟨v1,rfl,-⟩,_,_,rfl,⟨v2,rfl,h2,-⟩,rfl⟩
 exact ⟨⟨v0,v1,v2⟩,rfl,⟨h2⟩⟩
theorem args_FnExactNewObject:ArgsM enc Tryz.prog W Tryz.f3.params.toList (fun zs=>∃ (a0:DFS),∃ (a1:DCred),∃ (a2:Str),∃ (a3:Int),∃ (a4:Int),WfFS a0∧WfCred a1∧a2.length≤maxLen∧(Lit.int .i64 a3).wf=true∧(Lit.int .i64 a4).wf=true∧zs = [.agg [.int .i64 a0.tick, .frz 2 none (a0.quotas.map cQuota), .frz 10 none (a0.inodes.map cInode), .frz 1 none (a0.data.map cs)], .agg [.int .i64 a1.uid, .int .i64 a1.gid, .frz 1 none (a1.groups.map ci)], .str a2, .int .i64 a3, .int .i64 a4]):=
 (Args.cons (Arg.struct Tryz.underlying26 rd_lFS) (Args.cons (Arg.struct Tryz.underlying29 rd_lCred) (Args.cons (Arg.str Tryz.underlying9) (Args.cons (Arg.int Tryz.underlying3) (Args.cons (Arg.int Tryz.underlying3) (Args.nil)))))).mono (by
  rintro _ ⟨_,_,rfl,⟨_,⟨a0,rfl,h0⟩,rfl⟩,_,_,rfl,⟨_,⟨a1,rfl,h1⟩,rfl⟩,_,_,rfl,⟨a2,rfl,h2⟩,_,_,rfl,⟨a3,rfl,h3⟩,_,_,rfl,⟨a4,rfl,h4⟩,rfl⟩
  exact ⟨a0,a1,a2,a3,a4,h0,h1,h2,h3,h4,rfl⟩)
end
set_option maxHeartbeats 20000000 in
theorem fnExactNewObject_lifted (os:Os) (started:os.Started) (H:Type) (enc:TypeId × Value→H) :
  ReturnsInHanded {} Tryz.checked os 3 .any (Rows.fnExactNewObjectSpec.pre6 enc Tryz.prog Tryz.f3 Rows.fnExactNewObjectRow.domain false) (Rows.fnExactNewObjectSpec.post enc Tryz.prog Tryz.f3 false true false false):=
 law_lifted (C:=Tryz.checked) enc (by kernel_rfl) started (by kernel_rfl) Tryz.func3 rfl (by kernel_rfl) (by kernel_rfl) rfl (by kernel_rfl) rfl Tryz.underlying4
  (fun ds h=>by match ds,h with | [d0,d1,d2,d3,d4],_=>rfl)
  (ChangeSpec.witness6 (enc:=enc) (C:=Tryz.checked) false ⟨#[],#[.agg #[.int .i64 0, .slice none 0 0, .slice none 0 0, .slice none 0 0], .agg #[.int .i64 0, .int .i64 0, .slice none 0 0], .string ByteArray.empty, .int .i64 0, .int .i64 0],[]⟩ 8 (by kernel_rfl) (by kernel_rfl) (by kernel_rfl) (by kernel_rfl))
  (fun W=>args_FnExactNewObject) (by
   rintro _ ⟨a0,a1,a2,a3,a4,h0,h1,h2,h3,h4,rfl⟩
   exact ⟨_,laws_FnExactNewObject _ _ _ _ a0 a1 a2 a3 a4 h0 h1 h2 h3 h4⟩)
set_option maxHeartbeats 20000000 in
theorem fnExactNewObject_holds:Rows.FnExactNewObjectSaid:=
 OpenClaim.holds_of_wide 3 Tryz.f3 rfl rfl rfl rfl rfl rfl rfl ⟨rfl,rfl,rfl,rfl,rfl⟩ rfl rfl rfl rfl rfl (by kernel_rfl) Tryz.func3 (joined_of (by as_aux_lemma=>kernel_rfl) jp1 jp2 (by as_aux_lemma=>kernel_rfl) (by as_aux_lemma=>kernel_rfl) (by as_aux_lemma=>kernel_rfl) (by as_aux_lemma=>kernel_rfl) (by as_aux_lemma=>kernel_rfl) (by as_aux_lemma=>kernel_rfl) (by as_aux_lemma=>kernel_rfl) (by as_aux_lemma=>kernel_rfl) (by as_aux_lemma=>kernel_rfl) (by as_aux_lemma=>kernel_rfl) (by as_aux_lemma=>kernel_rfl) (by as_aux_lemma=>kernel_rfl) (by as_aux_lemma=>kernel_rfl) (by as_aux_lemma=>kernel_rfl) (by as_aux_lemma=>kernel_rfl) (by as_aux_lemma=>kernel_rfl) (by as_aux_lemma=>kernel_rfl) (by as_aux_lemma=>kernel_rfl) (by as_aux_lemma=>kernel_rfl) (by as_aux_lemma=>kernel_rfl) (by as_aux_lemma=>kernel_rfl) jp24 jp25 (lift_of jp26 rfl) (by as_aux_lemma=>kernel_rfl) (by as_aux_lemma=>kernel_rfl) (by as_aux_lemma=>kernel_rfl) (by as_aux_lemma=>kernel_rfl) (by as_aux_lemma=>kernel_rfl))
  (of_decide_eq_true (by kernel_rfl)) (by unfold Func.isWrapper;first | (rw [if_pos (by decide +kernel)];kernel_rfl) | (rw [if_neg (by decide +kernel)];exact ⟨rfl,rfl⟩))
  (fun os started H enc _=>fnExactNewObject_lifted os started H enc)
#print axioms fnExactNewObject_holds
end Go.Proofs.YtgopfdninbknpaaGreat
