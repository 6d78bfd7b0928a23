import Derived.Test.YtiafmpcmmohdkaaLA
namespace Go.Proofs.Ytiafmpcmmohdkaa
open Go.Fw
set_option linter.unusedVariables false
set_option linter.unusedSimpArgs false
structure WfInode (x : DInode) : Prop where
 hl_blocks : x.blocks.length ≤ maxLen
 hl_acl : x.acl.length ≤ maxLen
 hl_dflt : x.dflt.length ≤ maxLen
structure SmInode (x : DInode) : Prop where
 hl_blocks : x.blocks.length ≤ 1048576
 hl_acl : x.acl.length ≤ 1048576
 hl_dflt : x.dflt.length ≤ 1048576
def wInode (x : DInode) : Nat := x.blocks.length + (x.acl.length + x.dflt.length)
theorem smInode_of {x : DInode} (h : wInode x ≤ 1048576) : SmInode x := by
 simp only [wInode] at h
 exact ⟨by omega, by omega, by omega⟩
def wLInode (xs : List DInode) : Nat := xs.length + wList wInode xs
def mkInode (x : DInode) (k : Int) : DInode := { kind := k, mode := (k + 1), uid := ((k + 1) + 1), gid := (((k + 1) + 1) + 1), links := ((((k + 1) + 1) + 1) + 1), size := (((((k + 1) + 1) + 1) + 1) + 1), tick := ((((((k + 1) + 1) + 1) + 1) + 1) + 1), blocks := mLInt x.blocks (((((((k + 1) + 1) + 1) + 1) + 1) + 1) + 1), acl := mLAclEntry x.acl ((((((((k + 1) + 1) + 1) + 1) + 1) + 1) + 1) + ((nLInt x.blocks : Nat) : Int)), dflt := mLAclEntry x.dflt (((((((((k + 1) + 1) + 1) + 1) + 1) + 1) + 1) + ((nLInt x.blocks : Nat) : Int)) + ((nLAclEntry x.acl : Nat) : Int)) }
def nmInode (x : DInode) : Nat := 7 + nLInt x.blocks + nLAclEntry x.acl + nLAclEntry x.dflt
abbrev mLInode (xs : List DInode) (k : Int) : List DInode := mkL mkInode nmInode xs k
abbrev nLInode (xs : List DInode) : Nat := wList nmInode xs
structure WfFS (x : DFS) : Prop where
 hl_quotas : x.quotas.length ≤ maxLen
 hl_inodes : x.inodes.length ≤ maxLen
 hx_inodes : ∀ y ∈ x.inodes, WfInode y
 hl_data : x.data.length ≤ maxLen
 hx_data : ∀ y ∈ x.data, y.length ≤ maxLen
structure SmFS (x : DFS) : Prop where
 hl_quotas : x.quotas.length ≤ 1048576
 hl_inodes : x.inodes.length ≤ 1048576
 hx_inodes : ∀ y ∈ x.inodes, SmInode y
 hl_data : x.data.length ≤ 1048576
def wFS (x : DFS) : Nat := x.quotas.length + (wLInode x.inodes + wLString x.data)
theorem smFS_of {x : DFS} (h : wFS x ≤ 1048576) : SmFS x := by
 simp only [wFS, wLInode, wLString] at h
 exact ⟨by omega, by omega, fun y hy => smInode_of (by have := wList_mem (f := wInode) hy; omega), by omega⟩
abbrev mtFS (x : DFS) (k : Int) : DFS := { x with quotas := mLQuota x.quotas k, inodes := mLInode x.inodes (k + ((nLQuota x.quotas : Nat) : Int)), data := mLString x.data ((k + ((nLQuota x.quotas : Nat) : Int)) + ((nLInode x.inodes : Nat) : Int)) }
abbrev ntFS (x : DFS) : Nat := nLQuota x.quotas + nLInode x.inodes + nLString x.data
end Go.Proofs.Ytiafmpcmmohdkaa
