/- Sizes of small file systems. -/
import Derived.Test.YtombegncnofnbaaM11
import Derived.Test.YtombegncnofnbaaLCred
namespace Go.Proofs.Ytombegncnofnbaa
open Go.Fw
set_option linter.unusedVariables false
set_option linter.unusedSimpArgs false
theorem smI {x:DInode} (h:SmInode x):SmI x:=⟨h.hl_blocks,h.hl_acl,h.hl_dflt⟩
theorem smF {x:DFS} (h:SmFS x):SmF x:=⟨h.hl_quotas,h.hl_inodes,fun n hn=>smI (h.hx_inodes n hn),h.hl_data⟩
theorem smI' {x:DInode} (h:SmI x):SmInode x:=⟨h.blocks,h.acl,h.dflt⟩
theorem smF' {x:DFS} (h:SmF x):SmFS x:=⟨h.quotas,h.inodes,fun n hn=>smI' (h.inode n hn),h.data⟩
theorem nLString_eq (xs:List Str):nLString xs=xs.length:=wList_one
theorem nLInt_eq (xs:List Int):nLInt xs=xs.length:=wList_one
theorem nLAcl_eq (xs:List DAcl):nLAclEntry xs=3 * xs.length:=by
 show wList (fun _=>3) xs=_
 induction xs with
 | nil=>rfl
 | cons x xs ih=>simp only [wList,ih,List.length_cons];omega
theorem nLQuota_eq (xs:List DQuota):nLQuota xs=2 * xs.length:=by
 show wList (fun _=>2) xs=_
 induction xs with
 | nil=>rfl
 | cons x xs ih=>simp only [wList,ih,List.length_cons];omega
theorem nLInode_le (xs:List DInode):nLInode xs≤7 * wLInode xs:=by
 unfold wLInode
 induction xs with
 | nil=>exact Nat.zero_le _
 | cons x xs ih=>
  have h1:=nLInt_eq x.blocks
  have h2:=nLAcl_eq x.acl
  have h3:=nLAcl_eq x.dflt
  simp only [nLInode,wList,List.length_cons,nmInode,wInode] at *
  omega
theorem ntFS_le (f:DFS):ntFS f≤7 * wFS f:=by
 have h1:=nLQuota_eq f.quotas
 have h2:=nLInode_le f.inodes
 have h3:=nLString_eq f.data
 simp only [ntFS,wFS,wLString] at *
 omega
structure Tiny (g:DFS):Prop where
 nq:g.quotas.length≤64
 ni:g.inodes.length≤64
 inode:∀ n ∈ g.inodes,n.blocks.length≤64∧n.acl.length≤64∧n.dflt.length≤64
 nd:g.data.length≤64
theorem Tiny.sm {g:DFS} (h:Tiny g):SmFS g:=by
 refine ⟨by have:=h.nq;omega,by have:=h.ni;omega,fun n hn => ?_,by have:=h.nd;omega⟩
 have:=h.inode n hn
 exact ⟨by omega,by omega,by omega⟩
theorem Tiny.nt {g:DFS} (h:Tiny g):ntFS g≤1000000:=by
 have h1:=nLQuota_eq g.quotas
 have h3:=nLString_eq g.data
 have h2:∀ l:List DInode,(∀ n ∈ l,n.blocks.length≤64∧n.acl.length≤64∧n.dflt.length≤64)→nLInode l≤1000 * l.length:=by
  intro l
  induction l with
  | nil=>intro _;exact Nat.zero_le _
  | cons x xs ih=>
   intro hx
   have a1:=nLInt_eq x.blocks
   have a2:=nLAcl_eq x.acl
   have a3:=nLAcl_eq x.dflt
   have a4:=ih (fun n hn=>hx n (List.mem_cons_of_mem _ hn))
   have a5:=hx x (List.mem_cons_self ..)
   simp only [nLInode,wList,List.length_cons,nmInode] at *
   omega
 have h4:=h2 _ h.inode
 have h5:=h.nq
 have h6:=h.ni
 have h7:=h.nd
 simp only [ntFS] at *
 omega
theorem tiny_of {f:DFS} (h:IsFS f):Tiny f:=by
 refine ⟨by rw [h.nq];decide,by rw [h.ni];decide,fun n hn => ?_,by rw [h.nd];decide⟩
 have:=(h.inode n hn).len
 omega
theorem Tiny.setI {f:DFS} (h:Tiny f) {i:Nat} {n:DInode} {D:List Str} (hb:n.blocks.length≤64∧n.acl.length≤64∧n.dflt.length≤64) (hD:D.length≤64):Tiny ⟨f.tick,f.quotas,f.inodes.set i n,D⟩:=by
 refine ⟨h.nq,by simpa using h.ni,fun m hm => ?_,hD⟩
 rcases List.mem_or_eq_of_mem_set hm with h1 | rfl
 ·exact h.inode m h1
 ·exact hb
end Go.Proofs.Ytombegncnofnbaa
