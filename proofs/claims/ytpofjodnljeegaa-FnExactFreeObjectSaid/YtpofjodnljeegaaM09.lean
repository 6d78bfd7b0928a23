/- Plain facts on the checks of a file system. -/
import Derived.Test.YtpofjodnljeegaaM08
namespace Go.Fw
set_option linter.unusedVariables false
theorem real_split {l : List Int} {j : Nat} (h : j < l.length) (hb : l[j] ≠ -1) : real l = real (l.take j) ++ l[j] :: real (l.drop (j + 1)) := by
 have h1 : l.take j ++ l[j] :: l.drop (j + 1) = l := by rw [← List.drop_eq_getElem_cons h, List.take_append_drop]
 have h2 := congrArg real h1
 rw [← h2, real, List.filter_append, List.filter_cons, if_pos (by simpa using hb)]
 rfl
theorem allB_split {ns : List DInode} {i : Nat} (h : i < ns.length) : allB ns = allB (ns.take i) ++ (real ns[i].blocks ++ allB (ns.drop (i + 1))) := by
 have h1 : ns.take i ++ ns[i] :: ns.drop (i + 1) = ns := by rw [← List.drop_eq_getElem_cons h, List.take_append_drop]
 have h2 := congrArg allB h1
 rw [← h2, allB, List.flatMap_append, List.flatMap_cons]
 rfl
theorem once_no {ns : List DInode} {i j : Nat} (h : i < ns.length) (hj : j < ns[i].blocks.length) (hb : ns[i].blocks[j] ≠ -1) (H : (allB ns).Nodup) : ns[i].blocks[j] ∉ allB (ns.take i) ++ real (ns[i].blocks.take j) := by
 rw [allB_split h, real_split hj hb, List.append_assoc, ← List.append_assoc] at H
 intro hm
 exact (List.nodup_append.1 H).2.2 _ hm _ (by simp) rfl
theorem blocks_size {x : DInode} (hx : InodeOK x) {j : Nat} (hj : j < x.blocks.length) : 32 * (j : Int) < x.size := by
 have h1 := hx.blocks
 unfold blocksNeeded at h1
 split at h1 <;> omega
theorem blocks_last {x : DInode} (hx : InodeOK x) {j : Nat} (hj : j < x.blocks.length) (hs : x.size - 32 * j < 32) : j + 1 = x.blocks.length := by
 have h1 := hx.blocks
 unfold blocksNeeded at h1
 split at h1 <;> omega
theorem blocks_end {x : DInode} (hx : InodeOK x) : x.size ≤ 32 * x.blocks.length := by
 have h1 := hx.blocks
 unfold blocksNeeded at h1
 split at h1 <;> omega
theorem inode_used {x : DInode} (hx : IsInode x) (hj : 0 < x.blocks.length) : InodeOK x := by
 rcases hx with rfl | hx
 ·simp [zeroInode] at hj
 ·exact hx
theorem tail_no {data : List Str} {x : DInode} (hx : InodeOK x) {j : Nat} (hj : j < x.blocks.length) (hs : x.size - 32 * j < 32) (hb : x.blocks[j] ≠ -1) (H : TailOK data x) : zeroStr ((data.getD x.blocks[j].toNat []).drop (x.size - 32 * j).toNat) = true := by
 have h1 := blocks_last hx hj hs
 have h2 : x.blocks.getLast? = some x.blocks[j] := by
  rw [List.getLast?_eq_getElem?, List.getElem?_eq_getElem (by omega)]
  congr 2
  omega
 have h3 := H _ h2 hb
 rw [← h1] at h3
 push_cast at h3
 rwa [show x.size - 32 * ((j : Int) + 1 - 1) = x.size - 32 * j by omega] at h3
def TailAt (data : List Str) (x : DInode) (k : Nat) : Prop := ∀ b, x.blocks[k]? = some b → b ≠ -1 → x.size - 32 * k < 32 → zeroStr ((data.getD b.toNat []).drop (x.size - 32 * k).toNat) = true
theorem tail_yes {data : List Str} {x : DInode} (hx : IsInode x) (hd : ∀ s ∈ data, s.length = 32) (ht : ∀ k < x.blocks.length, TailAt data x k) : TailOK data x := by
 intro b hb hb1
 have hl : 0 < x.blocks.length := by
  cases hbl : x.blocks with
  | nil => rw [hbl] at hb; simp at hb
  | cons => simp
 have hx := inode_used hx hl
 rw [List.getLast?_eq_getElem?] at hb
 have h1 := blocks_size hx (j := x.blocks.length - 1) (by omega)
 have h2 := blocks_end hx
 have hc : ((x.blocks.length - 1 : Nat) : Int) = (x.blocks.length : Int) - 1 := by omega
 rw [hc] at h1
 by_cases hs : x.size - 32 * ((x.blocks.length : Int) - 1) < 32
 ·have := ht (x.blocks.length - 1) (by omega) b hb hb1 (by rw [hc]; exact hs)
  rwa [hc] at this
 ·have h3 : (x.size - 32 * ((x.blocks.length : Int) - 1)).toNat = 32 := by omega
  rw [h3]
  have h4 : (data.getD b.toNat []).length ≤ 32 := by
   rw [List.getD_eq_getElem?_getD]
   cases hg : data[b.toNat]? with
   | none => simp
   | some s => simp [hd s (List.mem_of_getElem? hg)]
  rw [List.drop_of_length_le h4]
  rfl
theorem own_take {x : DInode} {j : Nat} (h : j < x.blocks.length) {u : Int} (ha : ∀ b ∈ x.blocks.take j, b ≠ -1 → ownerOf b = u) (hb : x.blocks[j] ≠ -1 → ownerOf x.blocks[j] = u) : ∀ b ∈ x.blocks.take (j + 1), b ≠ -1 → ownerOf b = u :=
 all_take_succ (P := fun b => b ≠ -1 → ownerOf b = u) h ha hb
theorem nodup_snoc {l : List Int} {b : Int} (h : l.Nodup) (hb : b ∉ l) : (l ++ [b]).Nodup := by
 rw [List.nodup_append]
 refine ⟨h, by simp, ?_⟩
 intro a ha c hc
 simp only [List.mem_singleton] at hc
 rintro rfl
 exact hb (hc ▸ ha)
def UsedOK (ns : List DInode) : Prop := (∀ n ∈ ns, OwnOK n) ∧ (allB ns).Nodup
noncomputable def usedR (ns : List DInode) : List Bool := if tr (UsedOK ns) = true then usedL (allB ns) else []
theorem usedR_yes {ns : List DInode} (h : UsedOK ns) : usedR ns = usedL (allB ns) := by
 rw [usedR, if_pos (tr_yes h)]
theorem usedR_no {ns : List DInode} (h : ¬ UsedOK ns) : usedR ns = [] := by
 rw [usedR, if_neg (by rw [tr_iff]; exact h)]
theorem tail_at {data : List Str} {x : DInode} {m : Nat} (hl : x.blocks.length = m + 1) : TailOK data x ↔ (x.blocks[m] ≠ -1 → zeroStr ((data.getD x.blocks[m].toNat []).drop (x.size - m * 32).toNat) = true) := by
 have h2 : x.blocks.getLast? = some x.blocks[m] := by
  rw [List.getLast?_eq_getElem?, List.getElem?_eq_getElem (by omega)]
  congr 2
  omega
 have h3 : 32 * ((x.blocks.length : Int) - 1) = m * 32 := by omega
 unfold TailOK
 rw [h3]
 constructor
 ·intro H hb
  exact H _ h2 hb
 ·intro H b hb hb1
  rw [h2] at hb
  cases hb
  exact H hb1
theorem tail_nil {data : List Str} {x : DInode} (hl : x.blocks.length = 0) : TailOK data x := by
 intro b hb
 rw [List.length_eq_zero_iff.1 hl] at hb
 simp at hb
end Go.Fw
