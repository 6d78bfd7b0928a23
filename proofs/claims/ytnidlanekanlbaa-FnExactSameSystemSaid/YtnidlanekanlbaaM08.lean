/- Plain models: inodes and file systems. -/
import Derived.Test.YtnidlanekanlbaaM06
namespace Go.Fw
set_option linter.unusedVariables false
def zeroInode : DInode := ⟨0, 0, 0, 0, 0, 0, 0, [], [], []⟩
def blocksNeeded (s : Int) : Int := if s ≤ 0 then 0 else (s - 1) / 32 + 1
theorem blocksNeeded_nn {s : Int} : 0 ≤ blocksNeeded s := by
  unfold blocksNeeded
  split <;> omega
theorem blocksNeeded_le {s : Int} (h : s ≤ 256) : blocksNeeded s ≤ 8 := by
  unfold blocksNeeded
  split <;> omega
def BlkAt (l : List Int) (i : Nat) : Prop := ∀ b, l[i]? = some b → b = -1 ∨ ((0 ≤ b ∧ b ≤ 999) ∧ b ∉ l.take i)
structure InodeOK (n : DInode) : Prop where
  kind : n.kind = 1 ∨ n.kind = 2
  mode : IsMode n.mode
  uid : IsUser n.uid
  gid : IsUser n.gid
  links : 0 ≤ n.links ∧ n.links ≤ 1000
  size : 0 ≤ n.size ∧ n.size ≤ 256
  tick : 0 ≤ n.tick ∧ n.tick ≤ 1000000000
  blocks : (n.blocks.length : Int) = blocksNeeded n.size
  blk : ∀ i < n.blocks.length, BlkAt n.blocks i
  acl : IsAcl n.acl
  dflt : IsAcl n.dflt
  file : n.kind = 2 ∨ n.dflt = [] ∧ iAnd n.mode 512 = 0
def IsInode (n : DInode) : Prop := n = zeroInode ∨ InodeOK n
noncomputable abbrev isInode (n : DInode) : Bool := tr (IsInode n)
theorem isInode_ok {n : DInode} (h : n.kind ≠ 0) : IsInode n ↔ InodeOK n := by
  constructor
  · rintro (rfl | h1)
    · exact absurd rfl h
    · exact h1
  · exact .inr
theorem isInode_free {n : DInode} (h : n.kind = 0) : IsInode n ↔ n = zeroInode := by
  constructor
  · rintro (rfl | h1)
    · rfl
    · rcases h1.kind with h2 | h2 <;> omega
  · exact .inl
/-! sizes that are told ahead -/
structure SmI (n : DInode) : Prop where
  blocks : n.blocks.length ≤ 1048576
  acl : n.acl.length ≤ 1048576
  dflt : n.dflt.length ≤ 1048576
structure SmF (f : DFS) : Prop where
  quotas : f.quotas.length ≤ 1048576
  inodes : f.inodes.length ≤ 1048576
  inode : ∀ n ∈ f.inodes, SmI n
  data : f.data.length ≤ 1048576
structure SmP (p : DProc) : Prop where
  groups : p.cred.groups.length ≤ 1048576
  files : p.files.length ≤ 1048576
structure SmS (s : DSystem) : Prop where
  fs : SmF s.fs
  procs : s.procs.length ≤ 1048576
  proc : ∀ p ∈ s.procs, SmP p
def ownerOf (b : Int) : Int := if 0 ≤ b ∧ b < 56 then b / 14 else -1
def real (l : List Int) : List Int := l.filter (fun b => decide (b ≠ -1))
def allB (ns : List DInode) : List Int := ns.flatMap (fun n => real n.blocks)
def zeroStr (s : Str) : Bool := s.all (fun b => decide (b = 0))
def TailOK (data : List Str) (n : DInode) : Prop := ∀ b, n.blocks.getLast? = some b → b ≠ -1 → zeroStr ((data.getD b.toNat []).drop (n.size - 32 * (n.blocks.length - 1)).toNat) = true
structure IsFS (f : DFS) : Prop where
  tick : 0 ≤ f.tick ∧ f.tick ≤ 1000000000
  nq : f.quotas.length = 4
  ni : f.inodes.length = 20
  nd : f.data.length = 56
  quota : ∀ q ∈ f.quotas, (0 ≤ q.inodes ∧ q.inodes ≤ 5) ∧ 0 ≤ q.blocks ∧ q.blocks ≤ 14
  secs : ∀ s ∈ f.data, s.length = 32
  inode : ∀ n ∈ f.inodes, IsInode n
  own : ∀ n ∈ f.inodes, ∀ b ∈ n.blocks, b ≠ -1 → ownerOf b = n.uid
  once : (allB f.inodes).Nodup
  tail : ∀ n ∈ f.inodes, TailOK f.data n
  rest : ∀ (k : Nat) (s : Str), f.data[k]? = some s → (k : Int) ∉ allB f.inodes → zeroStr s = true
  root : ∀ n, f.inodes[0]? = some n → n.kind = 2
noncomputable abbrev isFS (f : DFS) : Bool := tr (IsFS f)
/-- which of the blocks are in the list -/
def usedL (bs : List Int) : List Bool := (List.range 56).map (fun (k : Nat) => decide ((k : Int) ∈ bs))
@[simp] theorem usedL_len {bs : List Int} : (usedL bs).length = 56 := by simp [usedL]
theorem usedL_nil : usedL [] = List.replicate 56 false := by decide
theorem usedL_get {bs : List Int} {k : Nat} (h : k < 56) : (usedL bs)[k]? = some (decide ((k : Int) ∈ bs)) := by
  simp [usedL, List.getElem?_map, List.getElem?_range h]
theorem usedL_set {bs : List Int} {b : Int} (h0 : 0 ≤ b) (h1 : b < 56) : (usedL bs).set b.toNat true = usedL (bs ++ [b]) := by
  apply List.ext_getElem?
  intro k
  rw [List.getElem?_set]
  by_cases hk : k < 56
  · rw [usedL_get hk, usedL_get hk]
    simp only [usedL_len, List.mem_append, List.mem_singleton]
    by_cases he : b.toNat = k
    · rw [if_pos he, if_pos (by omega)]
      have : (k : Int) = b := by omega
      simp [this]
    · rw [if_neg he]
      have : ¬ (k : Int) = b := by omega
      simp [this]
  · rw [if_neg (by omega), List.getElem?_eq_none (by simp; omega), List.getElem?_eq_none (by simp; omega)]
end Go.Fw
