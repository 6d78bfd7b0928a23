/- Plain models: numbers in bytes, padding, cutting, entries of directories. -/
import Derived.Test.YtpofjodnljeegaaGreatM11
namespace Go.Fw
set_option linter.unusedVariables false
theorem takeM {α β : Type} {f : α → β} {xs : List α} {n : Nat} (h : xs.length = n) : (xs.map f).take n = xs.map f := List.take_of_length_le (by simp [h])
def cu (b : UInt8) : List AV := [.int .u8 b.toNat]
attribute [simp] cu
theorem l2b (s : Str) : listToBytes s = s.map cu := rfl
theorem b2l : ∀ (s : Str), bytesToList (s.map cu) = some s
 | [] => rfl
 | b :: s => by
  show (bytesToList (s.map cu)).map (UInt8.ofNat (b.toNat : Int).toNat :: ·) = _
  rw [b2l s]
  simp
def lowB (n : Nat) : Nat → Str
 | 0 => []
 | k + 1 => UInt8.ofNat (n / 256 ^ k) :: lowB n k
@[simp] theorem lowB_len {n : Nat} : ∀ {k : Nat}, (lowB n k).length = k
 | 0 => rfl
 | k + 1 => by rw [lowB, List.length_cons, lowB_len]
def putN (n : Int) (w : Nat) : Str := if 0 ≤ n ∧ n < 256 ^ w then lowB n.toNat w else []
theorem putN_len (n : Int) (w : Nat) : (putN n w).length ≤ w := by
 unfold putN
 split <;> simp
def putR (n w k : Nat) : Str := List.replicate (w - k) 0 ++ lowB n k
theorem putR_len {n w k : Nat} (h : k ≤ w) : (putR n w k).length = w := by simp [putR]; omega
theorem putR_set {n w k : Nat} (h : k < w) : (putR n w k).set (w - 1 - k) (UInt8.ofNat (n / 256 ^ k)) = putR n w (k + 1) := by
 have h1 : List.replicate (w - k) (0 : UInt8) = List.replicate (w - 1 - k) 0 ++ [0] := by
  rw [← List.replicate_succ']
  congr 1
  omega
 unfold putR
 rw [h1, List.append_assoc, List.set_append_right _ _ (by simp)]
 simp [lowB, show w - (k + 1) = w - 1 - k by omega]
theorem pow_256 {k : Nat} : 256 ^ (k + 1) = 256 ^ k * 256 := Nat.pow_succ ..
def getV (l : Str) : Int := l.foldl (fun n b => n * 256 + b.toNat) 0
def getN (s : Str) (a w : Int) : Int × Bool := if (1 ≤ w ∧ w ≤ 6) ∧ 0 ≤ a ∧ a ≤ s.length - w then (getV ((s.drop a.toNat).take w.toNat), true) else (0, false)
theorem getV_snoc {l : Str} {b : UInt8} : getV (l ++ [b]) = getV l * 256 + b.toNat := by simp [getV, List.foldl_append]
theorem getV_pow (l : Str) : 0 ≤ getV l ∧ getV l < 256 ^ l.length := by
 have key : ∀ (n : Nat) (l : Str), l.length = n → 0 ≤ getV l ∧ getV l < 256 ^ n := by
  intro n
  induction n with
  | zero =>
   intro l hl
   rw [List.length_eq_zero_iff.1 hl]
   simp [getV]
  | succ n ih =>
   intro l hl
   have hne : l ≠ [] := by rintro rfl; simp at hl
   have h1 := List.dropLast_concat_getLast hne
   rw [← h1, getV_snoc]
   have h2 := ih l.dropLast (by simp; omega)
   have hb : ((l.getLast hne).toNat : Int) < 256 := by have := (l.getLast hne).toNat_lt; omega
   rw [Int.pow_succ]
   omega
 exact key _ l rfl
theorem getV_bound {l : Str} (hl : l.length ≤ 5) : 0 ≤ getV l ∧ getV l < 1099511627776 := by
 have h := getV_pow l
 have h1 : (256 : Int) ^ l.length ≤ 1099511627776 := by
  have h2 : 256 ^ l.length ≤ 256 ^ 5 := Nat.pow_le_pow_right (by decide) hl
  have h3 : (256 ^ l.length : Nat) ≤ (1099511627776 : Nat) := h2
  have h4 : ((256 ^ l.length : Nat) : Int) ≤ 1099511627776 := by omega
  rwa [Int.natCast_pow] at h4
 omega
theorem getV2 {s : Str} {a : Nat} : 0 ≤ getV ((s.drop a).take 2) ∧ getV ((s.drop a).take 2) ≤ 65535 := by
 have h := getV_pow ((s.drop a).take 2)
 have h1 : (256 : Int) ^ ((s.drop a).take 2).length ≤ 65536 := by
  have h2 : 256 ^ ((s.drop a).take 2).length ≤ 256 ^ 2 := Nat.pow_le_pow_right (by decide) (by rw [List.length_take]; omega)
  have h3 : (256 ^ ((s.drop a).take 2).length : Nat) ≤ (65536 : Nat) := h2
  have h4 : ((256 ^ ((s.drop a).take 2).length : Nat) : Int) ≤ 65536 := by omega
  rwa [Int.natCast_pow] at h4
 omega
theorem cut_snoc {s : Str} {a w : Nat} (h : a + w < s.length) : (s.drop a).take (w + 1) = (s.drop a).take w ++ [s[a + w]] := by
 have h1 : w < (s.drop a).length := by rw [List.length_drop]; omega
 rw [List.take_succ_eq_append_getElem h1, List.getElem_drop]
def padTo (s : Str) (n : Nat) : Str := s ++ List.replicate (n - s.length) 0
theorem padTo_len {s : Str} {n : Nat} : (padTo s n).length = max s.length n := by simp [padTo]; omega
def chunk (s : Str) (n k : Nat) : Str := (s.drop (k * n)).take n
def nChunks (s : Str) (n : Nat) : Nat := (s.length + (n - 1)) / n
def cutN (s : Str) (n k : Nat) : List Str := (List.range k).map (chunk s n)
@[simp] theorem cutN_len {s : Str} {n k : Nat} : (cutN s n k).length = k := by simp [cutN]
theorem cutN_succ {s : Str} {n k : Nat} : cutN s n (k + 1) = cutN s n k ++ [chunk s n k] := by simp [cutN, List.range_succ]
theorem cutN_get {s : Str} {n k i : Nat} (h : i < (cutN s n k).length) : (cutN s n k)[i] = chunk s n i := by simp [cutN]
def isNm (b : UInt8) : Bool := !decide (b = 0) && !decide (b = 47)
def nameOK (s : Str) : Bool := decide (1 ≤ s.length) && decide (s.length ≤ 12) && s.all isNm && !decide (s = [46]) && !decide (s = [46, 46])
def recordOf (e : DEntry) : Str := padTo (putN (e.inode + 1) 2 ++ putN e.name.length 1 ++ e.name) 16
def entryAt (s : Str) : DEntry := ⟨(s.drop 3).take (s.getD 2 0).toNat, getV (s.take 2) - 1⟩
def goodE (s : Str) : Bool := decide ((s.getD 2 0).toNat ≤ 12) && decide (0 ≤ (entryAt s).inode) && decide ((entryAt s).inode < 20) && nameOK (entryAt s).name && decide (recordOf (entryAt s) = s)
def entryOf (s : Str) : Option DEntry := if s.length = 16 ∧ goodE s = true then some (entryAt s) else none
def entriesT (t : Str) (k : Nat) : List DEntry := (List.range k).filterMap (fun k => entryOf (chunk t 16 k))
def entriesL (t : Str) : List DEntry := entriesT t (nChunks t 16)
theorem entriesT_succ {t : Str} {k : Nat} : entriesT t (k + 1) = match entryOf (chunk t 16 k) with | some e => entriesT t k ++ [e] | none => entriesT t k := by
 simp only [entriesT, List.range_succ, List.filterMap_append]
 cases h : entryOf (chunk t 16 k) <;> simp [h]
theorem entriesT_len {t : Str} {k : Nat} : (entriesT t k).length ≤ k := by
 have := List.length_filterMap_le (fun k => entryOf (chunk t 16 k)) (List.range k)
 simpa [entriesT] using this
theorem chunk_len {s : Str} {n k : Nat} : (chunk s n k).length = min n (s.length - k * n) := by simp [chunk]
theorem entriesL_full (t : Str) : entriesL t = entriesT t (t.length / 16) := by
 unfold entriesL nChunks
 by_cases h : t.length % 16 = 0
 ·congr 1
  omega
 ·have h1 : (t.length + (16 - 1)) / 16 = t.length / 16 + 1 := by omega
  rw [h1, entriesT_succ]
  have h2 : entryOf (chunk t 16 (t.length / 16)) = none := by
   unfold entryOf
   rw [if_neg]
   rintro ⟨h3, -⟩
   rw [chunk_len] at h3
   omega
  rw [h2]
noncomputable def entriesI (f : DFS) (d : Int) : List DEntry := entriesL (contentN f.data (inodeAt f d))
def findE : List DEntry → Str → Int × Bool
 | [], _ => (0, false)
 | e :: l, s => if e.name = s then (e.inode, true) else findE l s
theorem findE_skip {l : List DEntry} {s : Str} : ∀ {i : Nat}, (∀ k (h : k < l.length), k < i → l[k].name ≠ s) → findE l s = findE (l.drop i) s := by
 induction l with
 | nil => intro i _; simp
 | cons e l ih =>
  intro i h
  cases i with
  | zero => rfl
  | succ i =>
   have h0 := h 0 (by simp) (by omega)
   rw [findE, if_neg (by simpa using h0), List.drop_succ_cons]
   exact ih fun k hk hki => by
    have := h (k + 1) (by simp only [List.length_cons]; omega) (by omega)
    rwa [List.getElem_cons_succ] at this
end Go.Fw
