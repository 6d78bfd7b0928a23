/- Plain model: the content of a file. -/
import Derived.Test.YtpofjodnljeegaaM09
namespace Go.Fw
set_option linter.unusedVariables false
def zero32 : Str := List.replicate 32 0
def blkT (data : List Str) (b : Int) : Str := if b = -1 then zero32 else data.getD b.toNat []
def textB (data : List Str) (bs : List Int) : Str := bs.flatMap (blkT data)
theorem textB_take {data : List Str} {bs : List Int} {i : Nat} (h : i < bs.length) : textB data (bs.take (i + 1)) = textB data (bs.take i) ++ blkT data bs[i] := by
 rw [List.take_succ_eq_append_getElem h, textB, List.flatMap_append]
 simp [textB]
def Blks (data : List Str) (bs : List Int) : Prop := data.length = 56 ∧ (∀ s ∈ data, s.length = 32) ∧ ∀ b ∈ bs, b ≠ -1 → 0 ≤ b ∧ b < 56
theorem textB_len {data : List Str} : ∀ {bs : List Int}, Blks data bs → (textB data bs).length = 32 * bs.length
 | [], _ => rfl
 | b :: bs, h => by
  have h1 : Blks data bs := ⟨h.1, h.2.1, fun c hc => h.2.2 c (List.mem_cons_of_mem _ hc)⟩
  have h2 := textB_len h1
  have h3 : (blkT data b).length = 32 := by
   unfold blkT
   split
   ·rfl
   ·rename_i hb
    have h4 := h.2.2 b (List.mem_cons_self ..) hb
    have h5 : b.toNat < data.length := by rw [h.1]; omega
    rw [List.getD_eq_getElem?_getD, List.getElem?_eq_getElem h5]
    exact h.2.1 _ (List.getElem_mem h5)
  rw [textB, List.flatMap_cons, List.length_append, ← textB, h2, h3, List.length_cons]
  omega
theorem IsFS.blks {f : DFS} (h : IsFS f) {n : DInode} (hn : n ∈ f.inodes) : Blks f.data n.blocks := by
 refine ⟨h.nd, h.secs, fun b hb hb1 => ?_⟩
 have hu := inode_used (h.inode _ hn) (List.length_pos_of_mem hb)
 exact owner_range (h.own _ hn b hb hb1) hu.uid.1
def contentN (data : List Str) (n : DInode) : Str := (textB data n.blocks).take n.size.toNat
theorem contentN_size {f : DFS} (h : IsFS f) {n : DInode} (hn : n ∈ f.inodes) : 0 ≤ n.size ∧ n.size ≤ 256 ∧ n.size ≤ 32 * n.blocks.length := by
 rcases h.inode _ hn with rfl | hx
 ·simp [zeroInode]
 ·exact ⟨hx.size.1, hx.size.2, blocks_end hx⟩
theorem contentN_len {f : DFS} (h : IsFS f) {n : DInode} (hn : n ∈ f.inodes) : ((contentN f.data n).length : Int) = n.size := by
 have h1 := contentN_size h hn
 rw [contentN, List.length_take, textB_len (h.blks hn)]
 omega
noncomputable def readB (f : DFS) (i a n : Int) : Str := if isFS f && hasI f i && decide (0 ≤ a) && decide (0 ≤ n) then ((contentN f.data (inodeAt f i)).drop a.toNat).take n.toNat else []
end Go.Fw
