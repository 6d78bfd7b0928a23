import Derived.Test.YtpofjodnljeegaaGreatP06b
namespace Go.Proofs.YtpofjodnljeegaaGreat
open Go.Fw
set_option linter.unusedVariables false
set_option linter.unusedSimpArgs false
theorem permsL_any {c : DCred} {acl : List DAcl} {w : Int} {i : Nat} (h : i < acl.length) : (permsL c (acl.take (i + 1))).any (fun p => hasP p w) = ((permsL c (acl.take i)).any (fun p => hasP p w) || (decide (acl[i].tag = 2) && inGroup c acl[i].id && hasP acl[i].perm w)) := by
 rw [permsL_take h]
 by_cases h1 : acl[i].tag = 2 <;> by_cases h2 : inGroup c acl[i].id = true <;> simp [h1, h2]
theorem permsL_pos {c : DCred} {acl : List DAcl} {i : Nat} (h : i < acl.length) : decide (0 < (permsL c (acl.take (i + 1))).length) = (decide (0 < (permsL c (acl.take i)).length) || (decide (acl[i].tag = 2) && inGroup c acl[i].id)) := by
 rw [permsL_take h]
 by_cases h1 : acl[i].tag = 2 <;> by_cases h2 : inGroup c acl[i].id = true <;> simp [h1, h2]
theorem dec_add {a b : Nat} : decide (0 < a + b) = (decide (0 < a) || decide (0 < b)) := by
 rw [Bool.eq_iff_iff]
 simp
 omega
end Go.Proofs.YtpofjodnljeegaaGreat
