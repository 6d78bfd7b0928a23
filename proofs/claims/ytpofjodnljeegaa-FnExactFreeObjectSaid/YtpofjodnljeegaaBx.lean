/- Arrays of truth values: a box whose cells are told by a list. -/
import Derived.Test.YtpofjodnljeegaaU
namespace Go.Fw
set_option linter.unusedVariables false
def bs (l : List Bool) : List AV := l.map AV.bool
@[simp] theorem bs_len {l : List Bool} : (bs l).length = l.length := by simp [bs]
@[simp] theorem bs_wants {k : Nat} : ∀ {l : List Bool} {m : Nat}, wantsCells k m (bs l) = []
 | [], m => rfl
 | b :: l, m => by
  show wantsCells k (m + 1) (bs l) = []
  exact bs_wants
@[simp] theorem bs_lost {t : List (Nat × AV)} {k : Nat} : ∀ {l : List Bool} {m : Nat}, lostCells t k m (bs l) = []
 | [], m => rfl
 | b :: l, m => by
  show lostCells t k (m + 1) (bs l) = []
  exact bs_lost
@[simp] theorem bs_ren {a b : Rid} {l : List Bool} : (bs l).map (ren2 a b) = bs l := by
 simp only [bs, List.map_map]
 exact List.map_congr_left fun x _ => rfl
@[simp] theorem bs_scrub {h : Heap} {l : List Bool} : (bs l).map (scrub2 h) = bs l := by
 simp only [bs, List.map_map]
 exact List.map_congr_left fun x _ => rfl
@[simp] theorem bs_rids {l : List Bool} : (bs l).flatMap rid2 = [] := by
 simp [bs, List.flatMap_map]
@[simp] theorem bs_roots : ∀ {l : List Bool}, cellRoots (bs l) = []
 | [] => rfl
 | b :: l => by
  show cellRoots (bs l) = []
  exact bs_roots
@[simp] theorem bs_set {l : List Bool} {j : Nat} {b : Bool} : (bs l).set j (.bool b) = bs (l.set j b) := by
 simp [bs, List.map_set]
theorem bs_get {l : List Bool} {j : Nat} {b : Bool} (h : l[j]? = some b) : List.take 1 (List.drop j (bs l)) = [.bool b] := by
 obtain ⟨hj, h2⟩ := List.getElem?_eq_some_iff.1 h
 rw [List.drop_eq_getElem_cons (by simpa using hj)]
 simp [bs, h2]
theorem bs_at {l : List Bool} {j : Nat} {b : Bool} (h : l[j]? = some b) : (bs l)[j]? = some (.bool b) := by
 simp [bs, h]
end Go.Fw
