import Derived.Test.YtiafmpcmmohdkaaP02
import Derived.Test.YtiafmpcmmohdkaaMA
import Derived.Test.YtiafmpcmmohdkaaP17
import Derived.Test.YtiafmpcmmohdkaaP12
import Derived.Test.YtiafmpcmmohdkaaBx
namespace Go.Proofs.Ytiafmpcmmohdkaa
open Go.Fw
set_option linter.unusedVariables false
set_option linter.unusedSimpArgs false
theorem nChunks_lt {s : Str} {n j : Nat} (h : 1 ≤ n) : j < nChunks s n ↔ j * n < s.length := by
 have h1 : j + 1 ≤ nChunks s n ↔ (j + 1) * n ≤ s.length + (n - 1) := Nat.le_div_iff_mul_le (by omega)
 rw [Nat.succ_mul] at h1
 omega
set_option maxHeartbeats 4000000
set_option maxRecDepth 8000
set_option maxHeartbeats 4000000
set_option maxRecDepth 8000
theorem content_le {f : DFS} {i : Int} (hf : IsFS f) (hi : 0 ≤ i ∧ i < 20) : (contentN f.data (inodeAt f i)).length ≤ 256 := by
 obtain ⟨k, rfl⟩ := Int.eq_ofNat_of_zero_le hi.1
 have hk : k < f.inodes.length := by rw [hf.ni]; omega
 rw [inodeAt_nat hk]
 have h := contentN_size hf (List.getElem_mem hk)
 unfold contentN
 rw [List.length_take]
 omega
theorem entryOf_short {c : Str} (h : ¬ c.length = 16) : entryOf c = none := if_neg fun h' => h h'.1
theorem entryOf_bad {c : Str} (h : ¬ goodE c = true) : entryOf c = none := if_neg fun h' => h h'.2
theorem entryOf_good {c : Str} (h : c.length = 16) (hg : goodE c = true) : entryOf c = some (entryAt c) := if_pos ⟨h, hg⟩
theorem getN02 {c : Str} (h : c.length = 16) : getN c 0 2 = (getV (c.take 2), true) := by
 rw [getN, if_pos (by omega)]
 rfl
set_option maxHeartbeats 4000000
set_option maxRecDepth 8000
set_option maxHeartbeats 4000000
set_option maxRecDepth 8000
theorem findE_at {E : List DEntry} {s : Str} {j : Nat} (h : j < E.length) : findE (E.drop j) s = if E[j].name = s then (E[j].inode, true) else findE (E.drop (j + 1)) s := by
 rw [List.drop_eq_getElem_cons h, findE]
theorem entriesL_le {t : Str} (h : t.length ≤ 256) : (entriesL t).length ≤ 16 := by
 rw [entriesL_full]
 have := entriesT_len (t := t) (k := t.length / 16)
 omega
theorem entriesI_le {f : DFS} {i : Int} (hf : IsFS f) (hi : 0 ≤ i ∧ i < 20) : (entriesI f i).length ≤ 16 := entriesL_le (content_le hf hi)
def firstE (i : Int) : List DEntry → Option Str
 | [] => none
 | e :: l => if e.inode = i then some e.name else firstE i l
theorem firstE_at {E : List DEntry} {i : Int} {j : Nat} (h : j < E.length) : firstE i (E.drop j) = if E[j].inode = i then some E[j].name else firstE i (E.drop (j + 1)) := by
 rw [List.drop_eq_getElem_cons h, firstE]
noncomputable def parentL (f : DFS) (i : Int) : List Nat → Int × Str × Bool
 | [] => (0, [], false)
 | d :: l => if isDirI f d then (match firstE i (entriesI f d) with | some s => (d, s, true) | none => parentL f i l) else parentL f i l
noncomputable def parentI (f : DFS) (i : Int) : Int × Str × Bool := parentL f i (List.range 20)
theorem range_at {k n : Nat} (h : k < n) : (List.range n).drop k = k :: (List.range n).drop (k + 1) := by
 rw [List.drop_eq_getElem_cons (by simpa using h), List.getElem_range]
set_option maxHeartbeats 4000000
set_option maxRecDepth 8000
theorem isDirI_kind {f : DFS} {k : Nat} (h : k < 20) : isDirI f k = decide ((inodeAt f k).kind = 2) := by
 unfold isDirI hasI
 by_cases hk : (inodeAt f k).kind = 2
 ·simp [hk]; omega
 ·simp [hk]
def cntE (i : Int) (E : List DEntry) : Nat := (E.filter (fun e => decide (e.inode = i))).length
theorem cntE_take {i : Int} {E : List DEntry} {j : Nat} (h : j < E.length) : cntE i (E.take (j + 1)) = if E[j].inode = i then cntE i (E.take j) + 1 else cntE i (E.take j) := by
 unfold cntE
 rw [List.take_succ_eq_append_getElem h, List.filter_append]
 by_cases hs : E[j].inode = i <;> simp [hs]
theorem cntE_le {i : Int} {E : List DEntry} : cntE i E ≤ E.length := List.length_filter_le _ _
noncomputable def linksN (f : DFS) (i : Int) : Nat → Nat
 | 0 => 0
 | k + 1 => linksN f i k + if isDirI f k then cntE i (entriesI f k) else 0
theorem linksN_succ {f : DFS} {i : Int} (k : Nat) : linksN f i (k + 1) = linksN f i k + if isDirI f k then cntE i (entriesI f k) else 0 := rfl
noncomputable def linksI (f : DFS) (i : Int) : Nat := linksN f i 20
theorem linksN_le {f : DFS} {i : Int} (hf : IsFS f) : ∀ {k : Nat}, k ≤ 20 → linksN f i k ≤ 16 * k
 | 0, _ => Nat.le_refl _
 | k + 1, h => by
  have h1 := linksN_le (i := i) hf (show k ≤ 20 by omega)
  have h2 := entriesI_le (i := k) hf (by omega)
  have h3 := cntE_le (i := i) (E := entriesI f k)
  rw [linksN]
  split <;> omega
end Go.Proofs.Ytiafmpcmmohdkaa
