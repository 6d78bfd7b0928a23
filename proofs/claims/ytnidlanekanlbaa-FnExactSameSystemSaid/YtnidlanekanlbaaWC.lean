import Derived.Test.YtnidlanekanlbaaM08
import Derived.Test.YtnidlanekanlbaaLSystem
namespace Go.Proofs.Ytnidlanekanlbaa
open Go.Fw
set_option linter.unusedVariables false
set_option linter.unusedSimpArgs false
theorem smI {x : DInode} (h : SmInode x) : SmI x := ⟨h.hl_blocks, h.hl_acl, h.hl_dflt⟩
theorem smF {x : DFS} (h : SmFS x) : SmF x := ⟨h.hl_quotas, h.hl_inodes, fun n hn => smI (h.hx_inodes n hn), h.hl_data⟩
theorem smP {x : DProc} (h : SmProc x) : SmP x := ⟨h.hs_cred.hl_groups, h.hl_files⟩
theorem smS {x : DSystem} (h : SmSystem x) : SmS x := ⟨smF h.hs_fs, h.hl_procs, fun n hn => smP (h.hx_procs n hn)⟩
theorem smI' {x : DInode} (h : SmI x) : SmInode x := ⟨h.blocks, h.acl, h.dflt⟩
theorem smF' {x : DFS} (h : SmF x) : SmFS x := ⟨h.quotas, h.inodes, fun n hn => smI' (h.inode n hn), h.data⟩
end Go.Proofs.Ytnidlanekanlbaa
