import Derived.Test.YtpofjodnljeegaaGreatM11
import Derived.Test.YtpofjodnljeegaaGreatLSystem
namespace Go.Proofs.YtpofjodnljeegaaGreat
open Go.Fw
set_option linter.unusedVariables false
set_option linter.unusedSimpArgs false
theorem smI {x : DInode} (h : SmInode x) : SmI x := ⟨h.hl_blocks, h.hl_acl, h.hl_dflt⟩
theorem smF {x : DFS} (h : SmFS x) : SmF x := ⟨h.hl_quotas, h.hl_inodes, fun n hn => smI (h.hx_inodes n hn), h.hl_data⟩
theorem smP {x : DProc} (h : SmProc x) : SmP x := ⟨h.hs_cred.hl_groups, h.hl_files⟩
theorem smS {x : DSystem} (h : SmSystem x) : SmS x := ⟨smF h.hs_fs, h.hl_procs, fun n hn => smP (h.hx_procs n hn)⟩
theorem smI' {x : DInode} (h : SmI x) : SmInode x := ⟨h.blocks, h.acl, h.dflt⟩
theorem smF' {x : DFS} (h : SmF x) : SmFS x := ⟨h.quotas, h.inodes, fun n hn => smI' (h.inode n hn), h.data⟩
theorem nLString_eq (xs : List Str) : nLString xs = xs.length := wList_one
theorem nLInt_eq (xs : List Int) : nLInt xs = xs.length := wList_one
theorem nLAcl_eq (xs : List DAcl) : nLAclEntry xs = 3 * xs.length := by
 show wList (fun _ => 3) xs = _
 induction xs with
 | nil => rfl
 | cons x xs ih => simp only [wList, ih, List.length_cons]; omega
theorem nLQuota_eq (xs : List DQuota) : nLQuota xs = 2 * xs.length := by
 show wList (fun _ => 2) xs = _
 induction xs with
 | nil => rfl
 | cons x xs ih => simp only [wList, ih, List.length_cons]; omega
theorem nLInode_le (xs : List DInode) : nLInode xs ≤ 7 * wLInode xs := by
 unfold wLInode
 induction xs with
 | nil => exact Nat.zero_le _
 | cons x xs ih =>
  have h1 := nLInt_eq x.blocks
  have h2 := nLAcl_eq x.acl
  have h3 := nLAcl_eq x.dflt
  simp only [nLInode, wList, List.length_cons, nmInode, wInode] at *
  omega
theorem ntFS_le (f : DFS) : ntFS f ≤ 7 * wFS f := by
 have h1 := nLQuota_eq f.quotas
 have h2 := nLInode_le f.inodes
 have h3 := nLString_eq f.data
 simp only [ntFS, wFS, wLString] at *
 omega
end Go.Proofs.YtpofjodnljeegaaGreat
