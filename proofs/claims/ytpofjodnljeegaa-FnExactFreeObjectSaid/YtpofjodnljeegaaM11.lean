/- Plain model: objects freed. -/
import Derived.Test.YtpofjodnljeegaaM10
namespace Go.Fw
set_option linter.unusedVariables false
def zeroR (data : List Str) (bs : List Int) : List Str := bs.foldl (fun d b => d.set b.toNat zero32) data
theorem zeroR_take {data : List Str} {bs : List Int} {i : Nat} (h : i < bs.length) : zeroR data (bs.take (i + 1)) = (zeroR data (bs.take i)).set bs[i].toNat zero32 := by
 unfold zeroR
 rw [foldl_take h]
theorem zeroR_len {bs : List Int} : ∀ {data : List Str}, (zeroR data bs).length = data.length := by
 induction bs with
 | nil => intro data; rfl
 | cons b bs ih =>
  intro data
  show (zeroR (data.set b.toNat zero32) bs).length = _
  rw [ih, List.length_set]
def freeF (f : DFS) (i : Int) : DFS := ⟨f.tick, f.quotas, f.inodes.set i.toNat zeroInode, zeroR f.data (real (inodeAt f i).blocks)⟩
theorem set_set_comm {d : List Str} {a b : Nat} {z : Str} : (d.set a z).set b z = (d.set b z).set a z := by
 by_cases h : a = b
 ·rw [h]
 ·exact List.set_comm z z h
theorem zeroR_comm {bs : List Int} : ∀ {d : List Str} {a : Nat}, zeroR (d.set a zero32) bs = (zeroR d bs).set a zero32 := by
 induction bs with
 | nil => intro d a; rfl
 | cons b bs ih =>
  intro d a
  show zeroR ((d.set a zero32).set b.toNat zero32) bs = (zeroR (d.set b.toNat zero32) bs).set a zero32
  rw [set_set_comm, ih]
theorem zeroR_drop {data : List Str} {bs : List Int} {m : Nat} (h : m < bs.length) : zeroR data (real (bs.drop m)) = if bs[m] = -1 then zeroR data (real (bs.drop (m + 1))) else (zeroR data (real (bs.drop (m + 1)))).set bs[m].toNat zero32 := by
 rw [List.drop_eq_getElem_cons h, real, List.filter_cons]
 by_cases hb : bs[m] = -1
 ·simp [hb, real]
 ·rw [if_pos (by simpa using hb), if_neg hb]
  show zeroR (data.set bs[m].toNat zero32) (real (bs.drop (m + 1))) = _
  rw [zeroR_comm]
end Go.Fw
