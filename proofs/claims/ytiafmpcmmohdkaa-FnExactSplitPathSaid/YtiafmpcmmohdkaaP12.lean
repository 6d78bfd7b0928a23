import Derived.Test.YtiafmpcmmohdkaaP08b
import Derived.Test.YtiafmpcmmohdkaaP08c
import Derived.Test.YtiafmpcmmohdkaaP06
import Derived.Test.YtiafmpcmmohdkaaP08a
import Derived.Test.YtiafmpcmmohdkaaM11
namespace Go.Proofs.Ytiafmpcmmohdkaa
open Go.Fw
set_option linter.unusedVariables false
set_option linter.unusedSimpArgs false
def newOwner (f : DFS) (c : DCred) (d : Int) : Int × Int := if iAnd (inodeAt f d).mode 1024 = 0 then (c.uid, c.gid) else (c.uid, (inodeAt f d).gid)
noncomputable def dirCode (f : DFS) (i : Int) : Int := if isFS f && hasI f i then if isDirI f i then 0 else 5 else 1
theorem isDir_use {f : DFS} {i : Int} (h : isDirI f i = true) : hasI f i = true := (Bool.and_eq_true_iff.1 h).1
theorem dir_code {f : DFS} {i : Int} : (dirCode f i = 0) ↔ (isFS f = true ∧ isDirI f i = true) := by
 unfold dirCode
 by_cases h1 : isFS f = true
 ·by_cases h2 : hasI f i = true
  ·simp [h1, h2]
  ·have : isDirI f i = false := by
    cases h : isDirI f i with
    | false => rfl
    | true => exact absurd (isDir_use h) h2
   simp [h1, h2, this]
 ·simp [h1]
def orphP (n : DInode) : Bool := !decide (n.kind = 0) && decide (n.links = 0)
def orphF (k : Int) : List DInode → List Int
 | [] => []
 | n :: l => if orphP n then k :: orphF (k + 1) l else orphF (k + 1) l
def orph (ns : List DInode) : List Int := orphF 0 ns
theorem orphF_snoc {n : DInode} : ∀ {k : Int} {l : List DInode}, orphF k (l ++ [n]) = if orphP n then orphF k l ++ [k + l.length] else orphF k l
 | k, [] => by simp [orphF]
 | k, m :: l => by
  rw [List.cons_append, orphF, orphF, orphF_snoc]
  have e : k + 1 + (l.length : Int) = k + ((m :: l).length : Int) := by rw [List.length_cons]; omega
  rw [e]
  by_cases h1 : orphP m = true <;> by_cases h2 : orphP n = true <;> simp [h1, h2]
theorem orph_take {l : List DInode} {i : Nat} (h : i < l.length) : orph (l.take (i + 1)) = if orphP l[i] then orph (l.take i) ++ [(i : Int)] else orph (l.take i) := by
 rw [orph, List.take_succ_eq_append_getElem h, orphF_snoc, List.length_take, Nat.min_eq_left (Nat.le_of_lt h)]
 simp [orph]
theorem orph_len : ∀ {k : Int} {l : List DInode}, (orphF k l).length ≤ l.length
 | k, [] => by simp [orphF]
 | k, m :: l => by
  have := orph_len (k := k + 1) (l := l)
  rw [orphF]
  split <;> simp <;> omega
theorem b2l_zero : ∀ c : Nat, bytesToList (List.replicate c [AV.int .u8 0]) = some (List.replicate c 0)
 | 0 => rfl
 | c + 1 => by
  rw [List.replicate_succ, List.replicate_succ]
  unfold bytesToList
  rw [b2l_zero c]
  rfl
end Go.Proofs.Ytiafmpcmmohdkaa
