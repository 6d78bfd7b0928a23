import Derived.Test.YtombegncnofnbaaLA
import Derived.Test.YtombegncnofnbaaDat
import Derived.Test.YtombegncnofnbaaBase
import Derived.Test.YtombegncnofnbaaLFS
namespace Go.Proofs.Ytombegncnofnbaa
open Go.Fw
set_option linter.unusedVariables false
set_option linter.unusedSimpArgs false
structure WfCred (x:DCred):Prop where
 hl_groups:x.groups.length≤maxLen
structure SmCred (x:DCred):Prop where
 hl_groups:x.groups.length≤1048576
def wCred (x:DCred):Nat:=x.groups.length
theorem smCred_of {x:DCred} (h:wCred x≤1048576):SmCred x:=by
 simp only [wCred] at h
 exact ⟨by omega⟩
abbrev mtCred (x:DCred) (k:Int):DCred:={ x with groups:=mLInt x.groups k }
abbrev ntCred (x:DCred):Nat:=nLInt x.groups
end Go.Proofs.Ytombegncnofnbaa
