/- Plain models: files written. -/
import Derived.Test.YtpofjodnljeegaaM14
namespace Go.Fw
set_option linter.unusedVariables false
def growB (l : List Int) (m : Nat) : List Int := l ++ List.replicate (m - l.length) (-1)
theorem growB_len {l : List Int} {m : Nat} : (growB l m).length = max l.length m := by simp [growB]; omega
theorem growB_zero {l : List Int} {m : Nat} (h : m ≤ l.length) : growB l m = l := by
 rw [growB, Nat.sub_eq_zero_of_le h]
 simp
theorem growB_step {l : List Int} {m : Nat} (h : l.length ≤ m) : growB l (m + 1) = growB l m ++ [-1] := by
 rw [growB, growB, Nat.succ_sub h, List.replicate_succ', List.append_assoc]
theorem real_growB {l : List Int} {m : Nat} : real (growB l m) = real l := by
 unfold real growB
 rw [List.filter_append]
 simp
theorem mem_growB {l : List Int} {m : Nat} {b : Int} (h : b ∈ growB l m) (hb : b ≠ -1) : b ∈ l := by
 rcases List.mem_append.1 h with h | h
 ·exact h
 ·exact absurd (List.mem_replicate.1 h).2 hb
def sized (n : DInode) (e : Int) : DInode := { n with size := max n.size e, blocks := growB n.blocks (blocksNeeded (max n.size e)).toNat }
def setI (f : DFS) (i : Nat) (n : DInode) : DFS := ⟨f.tick, f.quotas, f.inodes.set i n, f.data⟩
def putS (old : Str) (a b : Nat) (s : Str) : Str := old.take a ++ s ++ old.drop b
def wBlk (f : DFS) (i : Nat) (n : DInode) (k : Nat) : Int × Int := if n.blocks.getD k 0 = -1 then nextB (setI f i n) n.uid else (n.blocks.getD k 0, 0)
def wN (n : DInode) (k : Nat) (b : Int) : DInode := { n with blocks := n.blocks.set k b }
def wFrom (a k : Nat) : Nat := max a (32 * k)
def wTo (a k : Nat) (s : Str) : Nat := min (a + s.length) (32 * k + 32)
def wPart (a k : Nat) (s : Str) : Str := (s.drop (wFrom a k - a)).take (wTo a k s - wFrom a k)
def wD (D : List Str) (b : Int) (a k : Nat) (s : Str) : List Str := D.set b.toNat (putS (D.getD b.toNat []) (wFrom a k - 32 * k) (wTo a k s - 32 * k) (wPart a k s))
def wLoop (f : DFS) (i a : Nat) (s : Str) : Nat → Nat → DInode → List Str → DInode × List Str × Int
 | 0, _, n, D => (n, D, 0)
 | m + 1, k, n, D => if (wBlk f i n k).2 = 0 then wLoop f i a s m (k + 1) (wN n k (wBlk f i n k).1) (wD D (wBlk f i n k).1 a k s) else (n, D, (wBlk f i n k).2)
def wSteps (a : Nat) (s : Str) : Nat := (a + s.length - 1) / 32 + 1 - a / 32
def writeL (f : DFS) (i a : Nat) (s : Str) : DInode × List Str × Int := wLoop f i a s (wSteps a s) (a / 32) (sized (inodeAt f i) (a + s.length)) f.data
def writeF (f : DFS) (i a : Int) (s : Str) : DFS × Int :=
 if a < 0 then (f, 1) else if 256 < a + s.length then (f, 9) else if s = [] then (f, 0)
 else (⟨f.tick, f.quotas, f.inodes.set i.toNat (writeL f i.toNat a.toNat s).1, (writeL f i.toNat a.toNat s).2.1⟩, (writeL f i.toNat a.toNat s).2.2)
theorem InR_set {ns : List DInode} {i : Nat} {n : DInode} (h : InR ns) (hn : ∀ b ∈ n.blocks, b ≠ -1 → 0 ≤ b ∧ b < 56) : InR (ns.set i n) := by
 intro m hm
 rcases List.mem_or_eq_of_mem_set hm with h1 | rfl
 ·exact h m h1
 ·exact hn
structure WI (f : DFS) (i k0 : Nat) (n : DInode) (D : List Str) : Prop where
 sm : SmF f
 nq : f.quotas.length = 4
 ni : f.inodes.length = 20
 hi : i < 20
 rng : InR f.inodes
 blk : ∀ b ∈ n.blocks, b ≠ -1 → 0 ≤ b ∧ b < 56
 len : n.blocks.length = k0
 le8 : k0 ≤ 8
 acl : n.acl.length ≤ 6 ∧ n.dflt.length ≤ 6
 uid : IsUser n.uid
 nd : D.length = 56
 secs : ∀ s ∈ D, s.length = 32
theorem WI.smF {f : DFS} {i k0 : Nat} {n : DInode} {D : List Str} (h : WI f i k0 n D) : SmF ⟨f.tick, f.quotas, f.inodes.set i n, D⟩ := by
 refine ⟨h.sm.quotas, by simpa using h.sm.inodes, fun m hm => ?_, by simp only; rw [h.nd]; decide⟩
 rcases List.mem_or_eq_of_mem_set hm with h1 | rfl
 ·exact h.sm.inode m h1
 ·have h1 := h.len
  have h2 := h.le8
  have h3 := h.acl
  exact ⟨by omega, by omega, by omega⟩
theorem WI.inR {f : DFS} {i k0 : Nat} {n : DInode} {D : List Str} (h : WI f i k0 n D) : InR (f.inodes.set i n) := InR_set h.rng h.blk
theorem wBlk_ok {f : DFS} {i k0 k : Nat} {n : DInode} {D : List Str} (h : WI f i k0 n D) (hk : k < k0) (h0 : (wBlk f i n k).2 = 0) : ∃ b : Nat, (wBlk f i n k).1 = b ∧ b < 56 := by
 have hl := h.len
 have hkl : k < n.blocks.length := by omega
 have hg : n.blocks.getD k 0 = n.blocks[k] := by simp [hkl]
 unfold wBlk at h0 ⊢
 rw [hg] at h0 ⊢
 split
 ·rename_i hb
  rw [if_pos hb] at h0
  obtain ⟨b, h1, h2, -, -⟩ := nextB_ok h.uid h0
  exact ⟨b, h1, h2⟩
 ·rename_i hb
  obtain ⟨h1, h2⟩ := h.blk _ (List.getElem_mem hkl) hb
  obtain ⟨b, hb2⟩ := Int.eq_ofNat_of_zero_le h1
  exact ⟨b, hb2, by omega⟩
theorem putS_len {old s : Str} {a b : Nat} (h : old.length = 32) (ha : a ≤ 32) (hb : b ≤ 32) (hs : a + s.length = b) : (putS old a b s).length = 32 := by
 simp only [putS, List.length_append, List.length_take, List.length_drop]
 omega
theorem WI.step {f : DFS} {i k0 k a : Nat} {s : Str} {n : DInode} {D : List Str} (h : WI f i k0 n D) (hk : k < k0) (h0 : (wBlk f i n k).2 = 0) (ha : a < 32 * k + 32) (hs : 32 * k < a + s.length) : WI f i k0 (wN n k (wBlk f i n k).1) (wD D (wBlk f i n k).1 a k s) := by
 obtain ⟨b, h1, h2⟩ := wBlk_ok h hk h0
 rw [h1]
 refine ⟨h.sm, h.nq, h.ni, h.hi, h.rng, fun c hc hc1 => ?_, by simpa [wN] using h.len, h.le8, h.acl, h.uid, by simpa [wD] using h.nd, fun t ht => ?_⟩
 ·rcases List.mem_or_eq_of_mem_set hc with h3 | rfl
  ·exact h.blk c h3 hc1
  ·exact ⟨by omega, by omega⟩
 ·rcases List.mem_or_eq_of_mem_set ht with h3 | rfl
  ·exact h.secs t h3
  ·have hbD : b < D.length := by rw [h.nd]; exact h2
   have h4 := h.secs _ (List.getElem_mem hbD)
   simp only [Int.toNat_natCast, List.getD_eq_getElem?_getD, List.getElem?_eq_getElem hbD, Option.getD_some]
   refine putS_len h4 ?_ ?_ ?_
   ·simp only [wFrom]; omega
   ·simp only [wTo]; omega
   ·simp only [wPart, wFrom, wTo, List.length_take, List.length_drop]; omega
theorem WI.start {f : DFS} {i : Nat} {n : DInode} {e : Int} (hs : SmF f) (nq : f.quotas.length = 4) (ni : f.inodes.length = 20) (hi : i < 20) (hr : InR f.inodes) (hn : f.inodes[i]? = some n) (hin : InodeOK n) (he : e ≤ 256) (nd : f.data.length = 56) (hd : ∀ s ∈ f.data, s.length = 32) : WI f i (blocksNeeded (max n.size e)).toNat (sized n e) f.data := by
 have h1 := hin.blocks
 have h2 := hin.size
 have h3 := blocksNeeded_le (s := max n.size e) (by omega)
 have h4 : blocksNeeded n.size ≤ blocksNeeded (max n.size e) := by
  unfold blocksNeeded
  split <;> split <;> omega
 refine ⟨hs, nq, ni, hi, hr, fun b hb hb1 => ?_, ?_, by omega, ⟨hin.acl.1, hin.dflt.1⟩, hin.uid, nd, hd⟩
 ·exact hr n (List.mem_of_getElem? hn) b (mem_growB hb hb1) hb1
 ·simp only [sized, growB_len]
  omega
theorem wD_cells {D : List Str} {b A k : Nat} {s O : Str} (hb : b < D.length) (hO : D[b] = O) (hl : O.length = 32) (h : 32 * k ≤ wFrom A k ∧ A ≤ wFrom A k ∧ wFrom A k < wTo A k s ∧ wTo A k s ≤ A + s.length ∧ wTo A k s ≤ 32 * k + 32) :
  (List.map cs D).set b [.str (List.take ((wFrom A k : Int) - (k : Int) * 32).toNat O ++ (List.take ((wTo A k s : Int) - (A : Int) - ((wFrom A k : Int) - (A : Int))).toNat (List.drop (wFrom A k - A) s) ++ List.take (32 - ((wTo A k s : Int) - (k : Int) * 32)).toNat (List.drop ((wTo A k s : Int) - (k : Int) * 32).toNat O)))] = (wD D b A k s).map cs := by
 have e1 : ((wFrom A k : Int) - (k : Int) * 32).toNat = wFrom A k - 32 * k := by omega
 have e2 : ((wTo A k s : Int) - (A : Int) - ((wFrom A k : Int) - (A : Int))).toNat = wTo A k s - wFrom A k := by omega
 have e3 : ((wTo A k s : Int) - (k : Int) * 32).toNat = wTo A k s - 32 * k := by omega
 have e4 : List.take (32 - ((wTo A k s : Int) - (k : Int) * 32)).toNat (List.drop (wTo A k s - 32 * k) O) = List.drop (wTo A k s - 32 * k) O := List.take_of_length_le (by rw [List.length_drop]; omega)
 have hd : D.getD b [] = O := by simp [hb, hO]
 rw [e1, e2, e3, e4, wD, Int.toNat_natCast, hd, List.map_set, putS, wPart, List.append_assoc]
 rfl
theorem wN_same {n : DInode} {k : Nat} {b : Int} (h : k < n.blocks.length) (hb : n.blocks[k] = b) : wN n k b = n := by
 unfold wN
 rw [← hb, List.set_getElem_self]
end Go.Fw
