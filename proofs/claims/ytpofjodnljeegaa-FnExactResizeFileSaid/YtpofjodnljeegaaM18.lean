/- Plain models: files resized. -/
import Derived.Test.YtpofjodnljeegaaM17
namespace Go.Fw
set_option linter.unusedVariables false
def cutD (D : List Str) (n : DInode) (B : List Int) (size : Nat) : List Str :=
 if (size : Int) < n.size ∧ 0 < size % 32 ∧ B.getD ((blocksNeeded size).toNat - 1) 0 ≠ -1 then
  D.set (B.getD ((blocksNeeded size).toNat - 1) 0).toNat ((D.getD (B.getD ((blocksNeeded size).toNat - 1) 0).toNat []).take (size % 32) ++ List.replicate (32 - size % 32) 0)
 else D
def rB (n : DInode) (size : Nat) : List Int := growB n.blocks (blocksNeeded size).toNat
def rN (n : DInode) (size : Nat) : DInode := { n with size := size, blocks := (rB n size).take (blocksNeeded size).toNat }
def rD (D : List Str) (n : DInode) (size : Nat) : List Str := cutD (zeroR D (real ((rB n size).drop (blocksNeeded size).toNat))) n (rB n size) size
def resizeS (f : DFS) (i : Int) (size : Nat) : DFS := ⟨f.tick, f.quotas, f.inodes.set i.toNat (rN (inodeAt f i) size), rD f.data (inodeAt f i) size⟩
def resizeF (f : DFS) (i size : Int) : DFS × Int := if size < 0 then (f, 1) else if 256 < size then (f, 9) else (resizeS f i size.toNat, 0)
theorem zeroR_secs {bs : List Int} : ∀ {D : List Str}, (∀ s ∈ D, s.length = 32) → ∀ s ∈ zeroR D bs, s.length = 32 := by
 induction bs with
 | nil => intro D h; exact h
 | cons b bs ih =>
  intro D h
  refine ih (D := D.set b.toNat zero32) (fun s hs => ?_)
  rcases List.mem_or_eq_of_mem_set hs with h1 | rfl
  ·exact h s h1
  ·rfl
theorem rB_held {n : DInode} {size : Nat} (h : blocksNeeded size ≤ n.blocks.length) : rB n size = n.blocks := growB_zero (by omega)
theorem needed_mono {a b : Int} (h : a ≤ b) : blocksNeeded a ≤ blocksNeeded b := by
 unfold blocksNeeded
 split <;> split <;> omega
theorem needed_pos {a : Int} (h : 0 < a) : 0 < blocksNeeded a := by
 unfold blocksNeeded
 split <;> omega
end Go.Fw
