/- Plain models: inodes and file systems. -/
import Derived.Test.YtpofjodnljeegaaM06
namespace Go.Fw
set_option linter.unusedVariables false
def zeroInode : DInode := ⟨0, 0, 0, 0, 0, 0, 0, [], [], []⟩
def blocksNeeded (s : Int) : Int := if s ≤ 0 then 0 else (s - 1) / 32 + 1
theorem blocksNeeded_nn {s : Int} : 0 ≤ blocksNeeded s := by
 unfold blocksNeeded
 split <;> omega
theorem blocksNeeded_le {s : Int} (h : s ≤ 256) : blocksNeeded s ≤ 8 := by
 unfold blocksNeeded
 split <;> omega
def BlkAt (l : List Int) (i : Nat) : Prop := ∀ b, l[i]? = some b → b = -1 ∨ ((0 ≤ b ∧ b ≤ 999) ∧ b ∉ l.take i)
structure InodeOK (n : DInode) : Prop where
 kind : n.kind = 1 ∨ n.kind = 2
 mode : IsMode n.mode
 uid : IsUser n.uid
 gid : IsUser n.gid
 links : 0 ≤ n.links ∧ n.links ≤ 1000
 size : 0 ≤ n.size ∧ n.size ≤ 256
 tick : 0 ≤ n.tick ∧ n.tick ≤ 1000000000
 blocks : (n.blocks.length : Int) = blocksNeeded n.size
 blk : ∀ i < n.blocks.length, BlkAt n.blocks i
 acl : IsAcl n.acl
 dflt : IsAcl n.dflt
 file : n.kind = 2 ∨ n.dflt = [] ∧ iAnd n.mode 512 = 0
def IsInode (n : DInode) : Prop := n = zeroInode ∨ InodeOK n
noncomputable abbrev isInode (n : DInode) : Bool := tr (IsInode n)
theorem isInode_ok {n : DInode} (h : n.kind ≠ 0) : IsInode n ↔ InodeOK n := by
 constructor
 ·rintro (rfl | h1)
  ·exact absurd rfl h
  ·exact h1
 ·exact .inr
theorem isInode_free {n : DInode} (h : n.kind = 0) : IsInode n ↔ n = zeroInode := by
 constructor
 ·rintro (rfl | h1)
  ·rfl
  ·rcases h1.kind with h2 | h2 <;> omega
 ·exact .inl
structure SmI (n : DInode) : Prop where
 blocks : n.blocks.length ≤ 1048576
 acl : n.acl.length ≤ 1048576
 dflt : n.dflt.length ≤ 1048576
structure SmF (f : DFS) : Prop where
 quotas : f.quotas.length ≤ 1048576
 inodes : f.inodes.length ≤ 1048576
 inode : ∀ n ∈ f.inodes, SmI n
 data : f.data.length ≤ 1048576
structure SmP (p : DProc) : Prop where
 groups : p.cred.groups.length ≤ 1048576
 files : p.files.length ≤ 1048576
structure SmS (s : DSystem) : Prop where
 fs : SmF s.fs
 procs : s.procs.length ≤ 1048576
 proc : ∀ p ∈ s.procs, SmP p
theorem isInode_no {n : DInode} (hk : ¬ n.kind = 0) (h : InodeOK n → False) : isInode n = false := tr_no fun H => h ((isInode_ok hk).1 H)
theorem isInode_iff {n : DInode} (hk : ¬ n.kind = 0) : isInode n = true ↔ (n.kind = 1 ∨ n.kind = 2) ∧ (0 ≤ n.mode ∧ n.mode ≤ 2047) ∧ (0 ≤ n.uid ∧ n.uid < 4) ∧ (0 ≤ n.gid ∧ n.gid < 4) ∧ (0 ≤ n.links ∧ n.links ≤ 1000) ∧ (0 ≤ n.size ∧ n.size ≤ 256) ∧ (0 ≤ n.tick ∧ n.tick ≤ 1000000000) ∧ (n.blocks.length : Int) = blocksNeeded n.size ∧ (∀ i < n.blocks.length, BlkAt n.blocks i) ∧ IsAcl n.acl ∧ IsAcl n.dflt ∧ (n.kind = 2 ∨ n.dflt = [] ∧ iAnd n.mode 512 = 0) := by
 rw [tr_iff, isInode_ok hk]
 constructor
 ·rintro ⟨h1, h2, h3, h4, h5, h6, h7, h8, h9, h10, h11, h12⟩
  exact ⟨h1, h2, h3, h4, h5, h6, h7, h8, h9, h10, h11, h12⟩
 ·rintro ⟨h1, h2, h3, h4, h5, h6, h7, h8, h9, h10, h11, h12⟩
  exact ⟨h1, h2, h3, h4, h5, h6, h7, h8, h9, h10, h11, h12⟩
theorem blkAt_iff {l : List Int} {i : Nat} (h : i < l.length) : BlkAt l i ↔ (l[i] = -1 ∨ ((0 ≤ l[i] ∧ l[i] ≤ 999) ∧ l[i] ∉ l.take i)) := by
 constructor
 ·intro H
  exact H _ (List.getElem?_eq_getElem h)
 ·intro H e he
  rw [List.getElem?_eq_getElem h] at he
  cases he
  exact H
theorem isInode_blk {n : DInode} (hk : ¬ n.kind = 0) {i : Nat} (h : i < n.blocks.length) (hn : ¬ BlkAt n.blocks i) : isInode n = false := isInode_no hk fun H => hn (H.blk i h)
def QuotaOK (q : DQuota) : Prop := (0 ≤ q.inodes ∧ q.inodes ≤ 5) ∧ 0 ≤ q.blocks ∧ q.blocks ≤ 14
theorem all_take_succ {α : Type} {P : α → Prop} {l : List α} {i : Nat} (h : i < l.length) (ha : ∀ x ∈ l.take i, P x) (hx : P l[i]) : ∀ x ∈ l.take (i + 1), P x := by
 intro x hm
 rw [List.take_succ_eq_append_getElem h, List.mem_append, List.mem_singleton] at hm
 rcases hm with hm | rfl
 ·exact ha x hm
 ·exact hx
theorem all_take_len {α : Type} {P : α → Prop} {l : List α} (ha : ∀ x ∈ l.take l.length, P x) : ∀ x ∈ l, P x := by
 rwa [List.take_length] at ha
def ownerOf (b : Int) : Int := if 0 ≤ b ∧ b < 56 then b / 14 else -1
def real (l : List Int) : List Int := l.filter (fun b => decide (b ≠ -1))
theorem real_take {l : List Int} {i : Nat} (h : i < l.length) : real (l.take (i + 1)) = if l[i] = -1 then real (l.take i) else real (l.take i) ++ [l[i]] := by
 rw [List.take_succ_eq_append_getElem h, real, List.filter_append]
 by_cases hx : l[i] = -1 <;> simp [real, hx]
theorem real_len {l : List Int} : (real l).length ≤ l.length := List.length_filter_le _ _
def allB (ns : List DInode) : List Int := ns.flatMap (fun n => real n.blocks)
def OwnOK (n : DInode) : Prop := ∀ b ∈ n.blocks, b ≠ -1 → ownerOf b = n.uid
theorem allB_take {ns : List DInode} {i : Nat} (h : i < ns.length) : allB (ns.take (i + 1)) = allB (ns.take i) ++ real ns[i].blocks := by
 rw [List.take_succ_eq_append_getElem h, allB, List.flatMap_append]
 simp [allB]
theorem mem_real {l : List Int} {b : Int} : b ∈ real l ↔ b ∈ l ∧ b ≠ -1 := by simp [real]
def zeroStr (s : Str) : Bool := s.all (fun b => decide (b.toNat = 0))
def TailOK (data : List Str) (n : DInode) : Prop := ∀ b, n.blocks.getLast? = some b → b ≠ -1 → zeroStr ((data.getD b.toNat []).drop (n.size - 32 * (n.blocks.length - 1)).toNat) = true
structure IsFS (f : DFS) : Prop where
 tick : 0 ≤ f.tick ∧ f.tick ≤ 1000000000
 nq : f.quotas.length = 4
 ni : f.inodes.length = 20
 nd : f.data.length = 56
 quota : ∀ q ∈ f.quotas, QuotaOK q
 secs : ∀ s ∈ f.data, s.length = 32
 inode : ∀ n ∈ f.inodes, IsInode n
 own : ∀ n ∈ f.inodes, OwnOK n
 once : (allB f.inodes).Nodup
 tail : ∀ n ∈ f.inodes, TailOK f.data n
 rest : ∀ (k : Nat) (s : Str), f.data[k]? = some s → (k : Int) ∉ allB f.inodes → zeroStr s = true
 root : ∀ n, f.inodes[0]? = some n → n.kind = 2
noncomputable abbrev isFS (f : DFS) : Bool := tr (IsFS f)
def usedL (bs : List Int) : List Bool := (List.range 56).map (fun (k : Nat) => decide ((k : Int) ∈ bs))
@[simp] theorem usedL_len {bs : List Int} : (usedL bs).length = 56 := by simp [usedL]
theorem usedL_nil : usedL [] = List.replicate 56 false := by decide
theorem usedL_get {bs : List Int} {k : Nat} (h : k < 56) : (usedL bs)[k]? = some (decide ((k : Int) ∈ bs)) := by
 simp [usedL, List.getElem?_map, List.getElem?_range h]
theorem usedL_set {bs : List Int} {b : Int} (h0 : 0 ≤ b) (h1 : b < 56) : (usedL bs).set b.toNat true = usedL (bs ++ [b]) := by
 apply List.ext_getElem?
 intro k
 rw [List.getElem?_set]
 by_cases hk : k < 56
 ·rw [usedL_get hk, usedL_get hk]
  simp only [usedL_len, List.mem_append, List.mem_singleton]
  by_cases he : b.toNat = k
  ·rw [if_pos he, if_pos (by omega)]
   have : (k : Int) = b := by omega
   simp [this]
  ·rw [if_neg he]
   have : ¬ (k : Int) = b := by omega
   simp [this]
 ·rw [if_neg (by omega), List.getElem?_eq_none (by simp; omega), List.getElem?_eq_none (by simp; omega)]
def inodeAt (f : DFS) (i : Int) : DInode := f.inodes.getD i.toNat zeroInode
theorem inodeAt_nat {f : DFS} {k : Nat} (h : k < f.inodes.length) : inodeAt f k = f.inodes[k] := by
 simp [inodeAt, h]
def hasI (f : DFS) (i : Int) : Bool := decide (0 ≤ i) && (decide (i < 20) && !decide ((inodeAt f i).kind = 0))
def isDirI (f : DFS) (i : Int) : Bool := hasI f i && decide ((inodeAt f i).kind = 2)
theorem hasI_lt {f : DFS} {i : Int} (h : hasI f i = true) : 0 ≤ i ∧ i < 20 ∧ ¬ (inodeAt f i).kind = 0 := by
 simpa [hasI] using h
noncomputable def mayI (f : DFS) (c : DCred) (i want : Int) : Bool := hasI f i && allowed c (inodeAt f i).uid (inodeAt f i).gid (inodeAt f i).mode (inodeAt f i).acl want
theorem owner_range {b u : Int} (h : ownerOf b = u) (hu : 0 ≤ u) : 0 ≤ b ∧ b < 56 := by
 unfold ownerOf at h
 split at h <;> omega
theorem IsFS.sm {f : DFS} (h : IsFS f) (i : Int) (hi : 0 ≤ i ∧ i < 20) : IsInode (inodeAt f i) := by
 obtain ⟨k, rfl⟩ := Int.eq_ofNat_of_zero_le hi.1
 have hk : k < f.inodes.length := by rw [h.ni]; omega
 rw [inodeAt_nat hk]
 exact h.inode _ (List.getElem_mem hk)
theorem IsInode.len {n : DInode} (h : IsInode n) : n.blocks.length ≤ 8 ∧ n.acl.length ≤ 6 ∧ n.dflt.length ≤ 6 := by
 rcases h with rfl | h
 ·simp [zeroInode]
 ·have h1 := h.blocks
  have h2 := blocksNeeded_le h.size.2
  exact ⟨by omega, h.acl.1, h.dflt.1⟩
theorem isDirI_lt {f : DFS} {i : Int} (h : isDirI f i = true) : 0 ≤ i ∧ i < 20 := by
 have := hasI_lt (Bool.and_eq_true_iff.1 h).1
 exact ⟨this.1, this.2.1⟩
end Go.Fw
