import Derived.Test.YtiafmpcmmohdkaaP05b
namespace Go.Proofs.Ytiafmpcmmohdkaa
open Go.Fw
set_option linter.unusedVariables false
set_option linter.unusedSimpArgs false
def idx (x : Int) : List Int → Int
 | [] => -1
 | y :: l => if y = x then 0 else if idx x l < 0 then -1 else idx x l + 1
theorem idx_mem {x : Int} {l : List Int} : 0 ≤ idx x l ↔ x ∈ l := by
 induction l with
 | nil => simp [idx]
 | cons y l ih =>
  rw [idx, List.mem_cons, ← ih]
  by_cases h1 : y = x
  ·simp [h1]
  ·have : ¬ x = y := fun e => h1 e.symm
   simp only [h1, this, if_false, false_or]
   split <;> omega
theorem low3 {x : Int} (h0 : 0 ≤ x) (h1 : x < 9223372036854775808) : iAnd x 7 = x % 8 := iAnd_low (k := 3) h0 h1 (by decide)
def idxP (w : Int) : List Int → Int
 | [] => -1
 | y :: l => if hasP y w = true then 0 else if idxP w l < 0 then -1 else idxP w l + 1
theorem idxP_any {w : Int} {l : List Int} : decide (0 ≤ idxP w l) = l.any (fun p => hasP p w) := by
 induction l with
 | nil => simp [idxP]
 | cons y l ih =>
  rw [idxP, List.any_cons, ← ih]
  by_cases h1 : hasP y w = true
  ·simp [h1]
  ·rw [if_neg h1, eq_false_of_ne_true h1, Bool.false_or, Bool.eq_iff_iff]
   simp only [decide_eq_true_eq]
   split <;> omega
theorem allowed_no {c : DCred} {uid gid mode : Int} {acl : List DAcl} {w : Int} (h : ¬ (isCred c = true ∧ isAcl acl = true ∧ (0 ≤ uid ∧ uid < 4) ∧ (0 ≤ gid ∧ gid < 4) ∧ (0 ≤ mode ∧ mode ≤ 2047) ∧ 0 ≤ w ∧ w ≤ 7)) : allowed c uid gid mode acl w = false := by
 unfold allowed
 rw [if_neg (by simpa only [Bool.and_eq_true, decide_eq_true_eq, and_assoc] using h)]
theorem allowed_yes {c : DCred} {uid gid mode : Int} {acl : List DAcl} {w : Int} (h : isCred c = true ∧ isAcl acl = true ∧ (0 ≤ uid ∧ uid < 4) ∧ (0 ≤ gid ∧ gid < 4) ∧ (0 ≤ mode ∧ mode ≤ 2047) ∧ 0 ≤ w ∧ w ≤ 7) : allowed c uid gid mode acl w =
  if c.uid = 0 then true else if c.uid = uid then hasP (permOf mode 0) w
  else if (aclPerm acl 1 c.uid).2 then hasP (iAnd (aclPerm acl 1 c.uid).1 (maskOf acl)) w
  else if 0 < (perms0 c gid mode ++ permsL c acl).length then hasP (maskOf acl) w && (perms0 c gid mode ++ permsL c acl).any (fun p => hasP p w)
  else hasP (permOf mode 2) w := by
 unfold allowed
 rw [if_pos (by simpa only [Bool.and_eq_true, decide_eq_true_eq, and_assoc] using h)]
theorem permsL_take {c : DCred} {acl : List DAcl} {i : Nat} (h : i < acl.length) : permsL c (acl.take (i + 1)) = if acl[i].tag = 2 ∧ inGroup c acl[i].id = true then permsL c (acl.take i) ++ [acl[i].perm] else permsL c (acl.take i) := by
 rw [List.take_succ_eq_append_getElem h, permsL, List.filter_append, List.map_append]
 by_cases h1 : acl[i].tag = 2 <;> by_cases h2 : inGroup c acl[i].id = true <;> simp [permsL, h1, h2]
theorem permsL_len {c : DCred} {acl : List DAcl} : (permsL c acl).length ≤ acl.length := by
 rw [permsL, List.length_map]
 exact List.length_filter_le _ _
theorem perms0_len {c : DCred} {g m : Int} : (perms0 c g m).length ≤ 1 := by
 unfold perms0
 split <;> simp
theorem permsL_any {c : DCred} {acl : List DAcl} {w : Int} {i : Nat} (h : i < acl.length) : (permsL c (acl.take (i + 1))).any (fun p => hasP p w) = ((permsL c (acl.take i)).any (fun p => hasP p w) || (decide (acl[i].tag = 2) && inGroup c acl[i].id && hasP acl[i].perm w)) := by
 rw [permsL_take h]
 by_cases h1 : acl[i].tag = 2 <;> by_cases h2 : inGroup c acl[i].id = true <;> simp [h1, h2]
theorem permsL_pos {c : DCred} {acl : List DAcl} {i : Nat} (h : i < acl.length) : decide (0 < (permsL c (acl.take (i + 1))).length) = (decide (0 < (permsL c (acl.take i)).length) || (decide (acl[i].tag = 2) && inGroup c acl[i].id)) := by
 rw [permsL_take h]
 by_cases h1 : acl[i].tag = 2 <;> by_cases h2 : inGroup c acl[i].id = true <;> simp [h1, h2]
theorem dec_add {a b : Nat} : decide (0 < a + b) = (decide (0 < a) || decide (0 < b)) := by
 rw [Bool.eq_iff_iff]
 simp
 omega
end Go.Proofs.Ytiafmpcmmohdkaa
