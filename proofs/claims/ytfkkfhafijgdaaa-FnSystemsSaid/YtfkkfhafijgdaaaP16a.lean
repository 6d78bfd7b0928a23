import Derived.Test.YtfkkfhafijgdaaaP07
namespace Go.Proofs.Ytfkkfhafijgdaaa
open Go.Fw
set_option linter.unusedVariables false
set_option linter.unusedSimpArgs false
abbrev fProc (a b:Option Bool) (p:DProc):AV := .agg [.int .i64 p.cred.uid, .int .i64 p.cred.gid, .frz 1 a (p.cred.groups.map ci), .frz 3 b (p.files.map cOpen)]
theorem proc_eq {p q:DProc}:p=q↔p.cred.uid=q.cred.uid∧p.cred.gid=q.cred.gid∧p.cred.groups=q.cred.groups∧p.files=q.files:=by
 obtain ⟨⟨a,b,c⟩,d⟩:=p
 obtain ⟨⟨a',b',c'⟩,d'⟩:=q
 simp [and_assoc]
end Go.Proofs.Ytfkkfhafijgdaaa
