/- Plain models: numbers, lists of entries, credentials, modes. -/
import Derived.Test.YtombegncnofnbaaDat
namespace Go.Fw
set_option linter.unusedVariables false
noncomputable def tr (p:Prop):Bool:=@decide p (Classical.propDecidable p)
theorem tr_iff {p:Prop}:tr p=true↔p:=by
 unfold tr
 exact @decide_eq_true_iff p (Classical.propDecidable p)
theorem tr_not {p:Prop}:tr p=false↔¬ p:=by
 unfold tr
 exact @decide_eq_false_iff_not p (Classical.propDecidable p)
theorem tr_yes {p:Prop} (h:p):tr p=true:=tr_iff.2 h
theorem tr_no {p:Prop} (h:¬ p):tr p=false:=tr_not.2 h
abbrev IsUser (u:Int):Prop:=0≤u∧u < 4
abbrev IsMode (m:Int):Prop:=0≤m∧m≤2047
def AclOK (e:DAcl):Prop:=(0≤e.perm∧e.perm≤7)∧((e.tag=1∨e.tag=2)∧0≤e.id∧e.id < 4∨e.tag=3∧e.id=0)
def AclLt (a b:DAcl):Prop:=a.tag < b.tag∨a.tag=b.tag∧a.id < b.id
def AclAt (l:List DAcl) (i:Nat):Prop:=∀ e,l[i]? = some e→AclOK e∧∀ d j,j + 1=i→l[j]? = some d→AclLt d e
def IsAcl (l:List DAcl):Prop:=l.length≤6∧(∀ i < l.length,AclAt l i)∧(∀ e,l.getLast? = some e→e.tag=3)
noncomputable abbrev isAcl (l:List DAcl):Bool:=tr (IsAcl l)
def CredAt (l:List Int) (i:Nat):Prop:=∀ e,l[i]? = some e→IsUser e∧∀ d j,j + 1=i→l[j]? = some d→d < e
def IsCred (c:DCred):Prop:=(∀ i < c.groups.length,CredAt c.groups i)∧IsUser c.uid∧IsUser c.gid
noncomputable abbrev isCred (c:DCred):Bool:=tr (IsCred c)
theorem lt_succ_all {P:Nat→Prop} {i:Nat} (h:∀ k < i,P k) (hi:P i):∀ k < i + 1,P k:=fun k hk=>by
 rcases Nat.lt_or_ge k i with h1 | h1
 ·exact h k h1
 ·obtain rfl:k=i:=by omega
  exact hi
def maskOf:List DAcl→Int
 | []=>7
 | e :: l=>if e.tag=3 then e.perm else maskOf l
def aclPerm (l:List DAcl) (t i:Int):Int × Bool:=match l with
 | []=>(0,false)
 | e :: l=>if e.tag=t∧e.id=i then (e.perm,true) else aclPerm l t i
theorem aclAt_zero {l:List DAcl} (h:0 < l.length):AclAt l 0↔AclOK l[0]:=by
 constructor
 ·intro H
  exact (H _ (List.getElem?_eq_getElem h)).1
 ·intro H e he
  rw [List.getElem?_eq_getElem h] at he
  cases he
  exact ⟨H,fun d j hj=>absurd hj (by omega)⟩
theorem aclAt_succ {l:List DAcl} {j:Nat} (h:j + 1 < l.length):AclAt l (j + 1)↔AclOK l[j + 1]∧AclLt (l[j]'(by omega)) l[j + 1]:=by
 constructor
 ·intro H
  have:=H _ (List.getElem?_eq_getElem h)
  exact ⟨this.1,this.2 _ j rfl (List.getElem?_eq_getElem (by omega))⟩
 ·rintro ⟨H1,H2⟩ e he
  rw [List.getElem?_eq_getElem h] at he
  cases he
  refine ⟨H1,fun d k hk hd => ?_⟩
  obtain rfl:k=j:=by omega
  rw [List.getElem?_eq_getElem (by omega)] at hd
  cases hd
  exact H2
theorem isAcl_at {l:List DAcl} {i:Nat} (h:i < l.length) (hn:¬ AclAt l i):isAcl l=false:=tr_no fun H=>hn (H.2.1 i h)
theorem isAcl_long {l:List DAcl} (h:¬ l.length≤6):isAcl l=false:=tr_no fun H=>h H.1
theorem isAcl_nil {l:List DAcl} (h:l.length=0):isAcl l=true:=by
 cases l with
 | nil=>exact tr_yes ⟨by simp,fun i hi=>absurd hi (Nat.not_lt_zero i),by simp⟩
 | cons=>simp at h
theorem isAcl_end {l:List DAcl} (h:∀ k < l.length,AclAt l k) (hl:l.length - 1 < l.length) (h6:l.length≤6):isAcl l=decide (l[l.length - 1].tag=3):=by
 rw [Bool.eq_iff_iff,tr_iff,decide_eq_true_eq]
 have hg:l.getLast? = some l[l.length - 1]:=by rw [List.getLast?_eq_getElem?,List.getElem?_eq_getElem hl]
 constructor
 ·intro H
  exact H.2.2 _ hg
 ·intro H
  refine ⟨h6,h,fun e he => ?_⟩
  rw [hg] at he
  cases he
  exact H
theorem credAt_zero {l:List Int} (h:0 < l.length):CredAt l 0↔IsUser l[0]:=by
 constructor
 ·intro H
  exact (H _ (List.getElem?_eq_getElem h)).1
 ·intro H e he
  rw [List.getElem?_eq_getElem h] at he
  cases he
  exact ⟨H,fun d j hj=>absurd hj (by omega)⟩
theorem credAt_succ {l:List Int} {j:Nat} (h:j + 1 < l.length):CredAt l (j + 1)↔IsUser l[j + 1]∧(l[j]'(by omega)) < l[j + 1]:=by
 constructor
 ·intro H
  have:=H _ (List.getElem?_eq_getElem h)
  exact ⟨this.1,this.2 _ j rfl (List.getElem?_eq_getElem (by omega))⟩
 ·rintro ⟨H1,H2⟩ e he
  rw [List.getElem?_eq_getElem h] at he
  cases he
  refine ⟨H1,fun d k hk hd => ?_⟩
  obtain rfl:k=j:=by omega
  rw [List.getElem?_eq_getElem (by omega)] at hd
  cases hd
  exact H2
theorem isCred_at {c:DCred} {i:Nat} (h:i < c.groups.length) (hn:¬ CredAt c.groups i):isCred c=false:=tr_no fun H=>hn (H.1 i h)
theorem isCred_end {c:DCred} (h:∀ k < c.groups.length,CredAt c.groups k):isCred c=(decide (IsUser c.uid) && decide (IsUser c.gid)):=by
 rw [Bool.eq_iff_iff,tr_iff,Bool.and_eq_true,decide_eq_true_eq,decide_eq_true_eq]
 exact ⟨fun H=>H.2,fun H=>⟨h,H⟩⟩
def inGroup (c:DCred) (g:Int):Bool:=decide (g=c.gid) || decide (g ∈ c.groups)
def permOf (m:Int) (k:Nat):Int:=if IsMode m then m / 8 ^ (2 - k) % 8 else 0
def iAnd (a b:Int):Int:=IntKind.wrap .i64 ((BitVec.ofInt 64 a &&& BitVec.ofInt 64 b).toNat)
def iOr (a b:Int):Int:=IntKind.wrap .i64 ((BitVec.ofInt 64 a ||| BitVec.ofInt 64 b).toNat)
def iAndNot (a b:Int):Int:=IntKind.wrap .i64 ((BitVec.ofInt 64 a &&& ~~~ BitVec.ofInt 64 b).toNat)
@[simp high] theorem bin_and {a b:Int}:intBin .and .i64 a b=some (.int .i64 (iAnd a b)):=rfl
@[simp high] theorem bin_or {a b:Int}:intBin .or .i64 a b=some (.int .i64 (iOr a b)):=rfl
@[simp high] theorem bin_andNot {a b:Int}:intBin .andNot .i64 a b=some (.int .i64 (iAndNot a b)):=rfl
@[simp] theorem wrap_and {a b:Int}:IntKind.wrap .i64 (((a % 2 ^ IntKind.bits .i64).toNat &&& (b % 2 ^ IntKind.bits .i64).toNat:Nat))=iAnd a b:=by
 unfold iAnd
 rw [BitVec.toNat_and,BitVec.toNat_ofInt,BitVec.toNat_ofInt]
 rfl
@[simp] theorem wrap_and_lit {a:Int} {n:Nat}:IntKind.wrap .i64 (((a % 2 ^ IntKind.bits .i64).toNat &&& (n % 2 ^ IntKind.bits .i64):Nat))=iAnd a n:=by
 rw [←wrap_and]
 congr 2
theorem iAnd_nat {a b:Nat} (ha:a < 2 ^ 63) (hb:b < 2 ^ 63):iAnd a b=((a &&& b:Nat):Int):=by
 unfold iAnd
 have h1:(BitVec.ofInt 64 (a:Int)).toNat=a:=by simp;omega
 have h2:(BitVec.ofInt 64 (b:Int)).toNat=b:=by simp;omega
 rw [BitVec.toNat_and,h1,h2]
 have h3:a &&& b≤a:=Nat.and_le_left
 exact wrap64_in (by omega) (by omega)
theorem iAnd_low {a:Int} {k:Nat} (h0:0≤a) (h1:a < 2 ^ 63) (hk:k < 63):iAnd a ((2 ^ k - 1:Nat):Int)=a % 2 ^ k:=by
 obtain ⟨n,rfl⟩:=Int.eq_ofNat_of_zero_le h0
 have hk':2 ^ k - 1 < 2 ^ 63:=by
  have:2 ^ k≤2 ^ 63:=Nat.pow_le_pow_right (by omega) (by omega)
  omega
 rw [iAnd_nat (by exact_mod_cast h1) hk',Nat.and_two_pow_sub_one_eq_mod]
 push_cast
 rfl
def hasP (p w:Int):Bool:=decide (iAnd p w=w)
def perms0 (c:DCred) (gid mode:Int):List Int:=if inGroup c gid then [permOf mode 1] else []
def permsL (c:DCred) (acl:List DAcl):List Int:=(acl.filter (fun e=>decide (e.tag=2) && inGroup c e.id)).map DAcl.perm
noncomputable def allowed (c:DCred) (uid gid mode:Int) (acl:List DAcl) (want:Int):Bool:=
 if isCred c && isAcl acl && decide (IsUser uid) && decide (IsUser gid) && decide (IsMode mode) && decide (0≤want) && decide (want≤7) then
  if c.uid=0 then true else if c.uid=uid then hasP (permOf mode 0) want
  else if (aclPerm acl 1 c.uid).2 then hasP (iAnd (aclPerm acl 1 c.uid).1 (maskOf acl)) want
  else if 0 < (perms0 c gid mode++permsL c acl).length then hasP (maskOf acl) want && (perms0 c gid mode++permsL c acl).any (fun p=>hasP p want)
  else hasP (permOf mode 2) want
 else false
def zeroInode:DInode:=⟨0,0,0,0,0,0,0,[],[],[]⟩
def blocksNeeded (s:Int):Int:=if s≤0 then 0 else (s - 1) / 32 + 1
theorem blocksNeeded_nn {s:Int}:0≤blocksNeeded s:=by
 unfold blocksNeeded
 split<;>omega
theorem blocksNeeded_le {s:Int} (h:s≤256):blocksNeeded s≤8:=by
 unfold blocksNeeded
 split<;>omega
def BlkAt (l:List Int) (i:Nat):Prop:=∀ b,l[i]? = some b→b = -1∨((0≤b∧b≤999)∧b ∉ l.take i)
structure InodeOK (n:DInode):Prop where
 kind:n.kind=1∨n.kind=2
 mode:IsMode n.mode
 uid:IsUser n.uid
 gid:IsUser n.gid
 links:0≤n.links∧n.links≤1000
 size:0≤n.size∧n.size≤256
 tick:0≤n.tick∧n.tick≤1000000000
 blocks:(n.blocks.length:Int)=blocksNeeded n.size
 blk:∀ i < n.blocks.length,BlkAt n.blocks i
 acl:IsAcl n.acl
 dflt:IsAcl n.dflt
 file:n.kind=2∨n.dflt = []∧iAnd n.mode 512=0
def IsInode (n:DInode):Prop:=n=zeroInode∨InodeOK n
noncomputable abbrev isInode (n:DInode):Bool:=tr (IsInode n)
theorem isInode_ok {n:DInode} (h:n.kind≠0):IsInode n↔InodeOK n:=by
 constructor
 ·rintro (rfl | h1)
  ·exact absurd rfl h
  ·exact h1
 ·exact .inr
theorem isInode_free {n:DInode} (h:n.kind=0):IsInode n↔n=zeroInode:=by
 constructor
 ·rintro (rfl | h1)
  ·rfl
  ·rcases h1.kind with h2 | h2<;>omega
 ·exact .inl
structure SmI (n:DInode):Prop where
 blocks:n.blocks.length≤1048576
 acl:n.acl.length≤1048576
 dflt:n.dflt.length≤1048576
structure SmF (f:DFS):Prop where
 quotas:f.quotas.length≤1048576
 inodes:f.inodes.length≤1048576
 inode:∀ n ∈ f.inodes,SmI n
 data:f.data.length≤1048576
structure SmP (p:DProc):Prop where
 groups:p.cred.groups.length≤1048576
 files:p.files.length≤1048576
structure SmS (s:DSystem):Prop where
 fs:SmF s.fs
 procs:s.procs.length≤1048576
 proc:∀ p ∈ s.procs,SmP p
theorem isInode_no {n:DInode} (hk:¬ n.kind=0) (h:InodeOK n→False):isInode n=false:=tr_no fun H=>h ((isInode_ok hk).1 H)
theorem isInode_iff {n:DInode} (hk:¬ n.kind=0):isInode n=true↔(n.kind=1∨n.kind=2)∧(0≤n.mode∧n.mode≤2047)∧(0≤n.uid∧n.uid < 4)∧(0≤n.gid∧n.gid < 4)∧(0≤n.links∧n.links≤1000)∧(0≤n.size∧n.size≤256)∧(0≤n.tick∧n.tick≤1000000000)∧(n.blocks.length:Int)=blocksNeeded n.size∧(∀ i < n.blocks.length,BlkAt n.blocks i)∧IsAcl n.acl∧IsAcl n.dflt∧(n.kind=2∨n.dflt = []∧iAnd n.mode 512=0):=by
 rw [tr_iff,isInode_ok hk]
 constructor
 ·rintro ⟨h1,h2,h3,h4,h5,h6,h7,h8,h9,h10,h11,h12⟩
  exact ⟨h1,h2,h3,h4,h5,h6,h7,h8,h9,h10,h11,h12⟩
 ·rintro ⟨h1,h2,h3,h4,h5,h6,h7,h8,h9,h10,h11,h12⟩
  exact ⟨h1,h2,h3,h4,h5,h6,h7,h8,h9,h10,h11,h12⟩
theorem blkAt_iff {l:List Int} {i:Nat} (h:i < l.length):BlkAt l i↔(l[i] = -1∨((0≤l[i]∧l[i]≤999)∧l[i] ∉ l.take i)):=by
 constructor
 ·intro H
  exact H _ (List.getElem?_eq_getElem h)
 ·intro H e he
  rw [List.getElem?_eq_getElem h] at he
  cases he
  exact H
theorem isInode_blk {n:DInode} (hk:¬ n.kind=0) {i:Nat} (h:i < n.blocks.length) (hn:¬ BlkAt n.blocks i):isInode n=false:=isInode_no hk fun H=>hn (H.blk i h)
def QuotaOK (q:DQuota):Prop:=(0≤q.inodes∧q.inodes≤5)∧0≤q.blocks∧q.blocks≤14
theorem all_take_succ {α:Type} {P:α→Prop} {l:List α} {i:Nat} (h:i < l.length) (ha:∀ x ∈ l.take i,P x) (hx:P l[i]):∀ x ∈ l.take (i + 1),P x:=by
 intro x hm
 rw [List.take_succ_eq_append_getElem h,List.mem_append,List.mem_singleton] at hm
 rcases hm with hm | rfl
 ·exact ha x hm
 ·exact hx
theorem all_take_len {α:Type} {P:α→Prop} {l:List α} (ha:∀ x ∈ l.take l.length,P x):∀ x ∈ l,P x:=by
 rwa [List.take_length] at ha
def ownerOf (b:Int):Int:=if 0≤b∧b < 56 then b / 14 else -1
def real (l:List Int):List Int:=l.filter (fun b=>decide (b ≠ -1))
theorem real_take {l:List Int} {i:Nat} (h:i < l.length):real (l.take (i + 1))=if l[i] = -1 then real (l.take i) else real (l.take i) ++ [l[i]]:=by
 rw [List.take_succ_eq_append_getElem h,real,List.filter_append]
 by_cases hx:l[i] = -1<;>simp [real,hx]
theorem real_len {l:List Int}:(real l).length≤l.length:=List.length_filter_le _ _
def allB (ns:List DInode):List Int:=ns.flatMap (fun n=>real n.blocks)
def OwnOK (n:DInode):Prop:=∀ b ∈ n.blocks,b ≠ -1→ownerOf b=n.uid
theorem allB_take {ns:List DInode} {i:Nat} (h:i < ns.length):allB (ns.take (i + 1))=allB (ns.take i)++real ns[i].blocks:=by
 rw [List.take_succ_eq_append_getElem h,allB,List.flatMap_append]
 simp [allB]
theorem mem_real {l:List Int} {b:Int}:b ∈ real l↔b ∈ l∧b ≠ -1:=by simp [real]
def zeroStr (s:Str):Bool:=s.all (fun b=>decide (b.toNat=0))
def TailOK (data:List Str) (n:DInode):Prop:=∀ b,n.blocks.getLast? = some b→b ≠ -1→zeroStr ((data.getD b.toNat []).drop (n.size - 32 * (n.blocks.length - 1)).toNat)=true
structure IsFS (f:DFS):Prop where
 tick:0≤f.tick∧f.tick≤1000000000
 nq:f.quotas.length=4
 ni:f.inodes.length=20
 nd:f.data.length=56
 quota:∀ q ∈ f.quotas,QuotaOK q
 secs:∀ s ∈ f.data,s.length=32
 inode:∀ n ∈ f.inodes,IsInode n
 own:∀ n ∈ f.inodes,OwnOK n
 once:(allB f.inodes).Nodup
 tail:∀ n ∈ f.inodes,TailOK f.data n
 rest:∀ (k:Nat) (s:Str),f.data[k]? = some s→(k:Int) ∉ allB f.inodes→zeroStr s=true
 root:∀ n,f.inodes[0]? = some n→n.kind=2
noncomputable abbrev isFS (f:DFS):Bool:=tr (IsFS f)
def usedL (bs:List Int):List Bool:=(List.range 56).map (fun (k:Nat)=>decide ((k:Int) ∈ bs))
@[simp] theorem usedL_len {bs:List Int}:(usedL bs).length=56:=by simp [usedL]
theorem usedL_nil:usedL []=List.replicate 56 false:=by decide
theorem usedL_get {bs:List Int} {k:Nat} (h:k < 56):(usedL bs)[k]? = some (decide ((k:Int) ∈ bs)):=by
 simp [usedL,List.getElem?_map,List.getElem?_range h]
theorem usedL_set {bs:List Int} {b:Int} (h0:0≤b) (h1:b < 56):(usedL bs).set b.toNat true=usedL (bs ++ [b]):=by
 apply List.ext_getElem?
 intro k
 rw [List.getElem?_set]
 by_cases hk:k < 56
 ·rw [usedL_get hk,usedL_get hk]
  simp only [usedL_len,List.mem_append,List.mem_singleton]
  by_cases he:b.toNat=k
  ·rw [if_pos he,if_pos (by omega)]
   have:(k:Int)=b:=by omega
   simp [this]
  ·rw [if_neg he]
   have:¬ (k:Int)=b:=by omega
   simp [this]
 ·rw [if_neg (by omega),List.getElem?_eq_none (by simp;omega),List.getElem?_eq_none (by simp;omega)]
def inodeAt (f:DFS) (i:Int):DInode:=f.inodes.getD i.toNat zeroInode
theorem inodeAt_nat {f:DFS} {k:Nat} (h:k < f.inodes.length):inodeAt f k=f.inodes[k]:=by
 simp [inodeAt,h]
def hasI (f:DFS) (i:Int):Bool:=decide (0≤i) && (decide (i < 20) && !decide ((inodeAt f i).kind=0))
def isDirI (f:DFS) (i:Int):Bool:=hasI f i && decide ((inodeAt f i).kind=2)
theorem hasI_lt {f:DFS} {i:Int} (h:hasI f i=true):0≤i∧i < 20∧¬ (inodeAt f i).kind=0:=by
 simpa [hasI] using h
noncomputable def mayI (f:DFS) (c:DCred) (i want:Int):Bool:=hasI f i && allowed c (inodeAt f i).uid (inodeAt f i).gid (inodeAt f i).mode (inodeAt f i).acl want
theorem owner_range {b u:Int} (h:ownerOf b=u) (hu:0≤u):0≤b∧b < 56:=by
 unfold ownerOf at h
 split at h<;>omega
theorem IsFS.sm {f:DFS} (h:IsFS f) (i:Int) (hi:0≤i∧i < 20):IsInode (inodeAt f i):=by
 obtain ⟨k,rfl⟩:=Int.eq_ofNat_of_zero_le hi.1
 have hk:k < f.inodes.length:=by rw [h.ni];omega
 rw [inodeAt_nat hk]
 exact h.inode _ (List.getElem_mem hk)
theorem IsInode.len {n:DInode} (h:IsInode n):n.blocks.length≤8∧n.acl.length≤6∧n.dflt.length≤6:=by
 rcases h with rfl | h
 ·simp [zeroInode]
 ·have h1:=h.blocks
  have h2:=blocksNeeded_le h.size.2
  exact ⟨by omega,h.acl.1,h.dflt.1⟩
theorem isDirI_lt {f:DFS} {i:Int} (h:isDirI f i=true):0≤i∧i < 20:=by
 have:=hasI_lt (Bool.and_eq_true_iff.1 h).1
 exact ⟨this.1,this.2.1⟩
theorem real_split {l:List Int} {j:Nat} (h:j < l.length) (hb:l[j] ≠ -1):real l=real (l.take j)++l[j] :: real (l.drop (j + 1)):=by
 have h1:l.take j++l[j] :: l.drop (j + 1)=l:=by rw [←List.drop_eq_getElem_cons h,List.take_append_drop]
 have h2:=congrArg real h1
 rw [←h2,real,List.filter_append,List.filter_cons,if_pos (by simpa using hb)]
 rfl
theorem allB_split {ns:List DInode} {i:Nat} (h:i < ns.length):allB ns=allB (ns.take i)++(real ns[i].blocks++allB (ns.drop (i + 1))):=by
 have h1:ns.take i++ns[i] :: ns.drop (i + 1)=ns:=by rw [←List.drop_eq_getElem_cons h,List.take_append_drop]
 have h2:=congrArg allB h1
 rw [←h2,allB,List.flatMap_append,List.flatMap_cons]
 rfl
theorem once_no {ns:List DInode} {i j:Nat} (h:i < ns.length) (hj:j < ns[i].blocks.length) (hb:ns[i].blocks[j] ≠ -1) (H:(allB ns).Nodup):ns[i].blocks[j] ∉ allB (ns.take i)++real (ns[i].blocks.take j):=by
 rw [allB_split h,real_split hj hb,List.append_assoc,←List.append_assoc] at H
 intro hm
 exact (List.nodup_append.1 H).2.2 _ hm _ (by simp) rfl
theorem blocks_size {x:DInode} (hx:InodeOK x) {j:Nat} (hj:j < x.blocks.length):32 * (j:Int) < x.size:=by
 have h1:=hx.blocks
 unfold blocksNeeded at h1
 split at h1<;>omega
theorem blocks_last {x:DInode} (hx:InodeOK x) {j:Nat} (hj:j < x.blocks.length) (hs:x.size - 32 * j < 32):j + 1=x.blocks.length:=by
 have h1:=hx.blocks
 unfold blocksNeeded at h1
 split at h1<;>omega
theorem blocks_end {x:DInode} (hx:InodeOK x):x.size≤32 * x.blocks.length:=by
 have h1:=hx.blocks
 unfold blocksNeeded at h1
 split at h1<;>omega
theorem inode_used {x:DInode} (hx:IsInode x) (hj:0 < x.blocks.length):InodeOK x:=by
 rcases hx with rfl | hx
 ·simp [zeroInode] at hj
 ·exact hx
theorem tail_no {data:List Str} {x:DInode} (hx:InodeOK x) {j:Nat} (hj:j < x.blocks.length) (hs:x.size - 32 * j < 32) (hb:x.blocks[j] ≠ -1) (H:TailOK data x):zeroStr ((data.getD x.blocks[j].toNat []).drop (x.size - 32 * j).toNat)=true:=by
 have h1:=blocks_last hx hj hs
 have h2:x.blocks.getLast? = some x.blocks[j]:=by
  rw [List.getLast?_eq_getElem?,List.getElem?_eq_getElem (by omega)]
  congr 2
  omega
 have h3:=H _ h2 hb
 rw [←h1] at h3
 push_cast at h3
 rwa [show x.size - 32 * ((j:Int) + 1 - 1)=x.size - 32 * j by omega] at h3
def TailAt (data:List Str) (x:DInode) (k:Nat):Prop:=∀ b,x.blocks[k]? = some b→b ≠ -1→x.size - 32 * k < 32→zeroStr ((data.getD b.toNat []).drop (x.size - 32 * k).toNat)=true
theorem tail_yes {data:List Str} {x:DInode} (hx:IsInode x) (hd:∀ s ∈ data,s.length=32) (ht:∀ k < x.blocks.length,TailAt data x k):TailOK data x:=by
 intro b hb hb1
 have hl:0 < x.blocks.length:=by
  cases hbl:x.blocks with
  | nil=>rw [hbl] at hb;simp at hb
  | cons=>simp
 have hx:=inode_used hx hl
 rw [List.getLast?_eq_getElem?] at hb
 have h1:=blocks_size hx (j:=x.blocks.length - 1) (by omega)
 have h2:=blocks_end hx
 have hc:((x.blocks.length - 1:Nat):Int)=(x.blocks.length:Int) - 1:=by omega
 rw [hc] at h1
 by_cases hs:x.size - 32 * ((x.blocks.length:Int) - 1) < 32
 ·have:=ht (x.blocks.length - 1) (by omega) b hb hb1 (by rw [hc];exact hs)
  rwa [hc] at this
 ·have h3:(x.size - 32 * ((x.blocks.length:Int) - 1)).toNat=32:=by omega
  rw [h3]
  have h4:(data.getD b.toNat []).length≤32:=by
   rw [List.getD_eq_getElem?_getD]
   cases hg:data[b.toNat]? with
   | none=>simp
   | some s=>simp [hd s (List.mem_of_getElem? hg)]
  rw [List.drop_of_length_le h4]
  rfl
theorem own_take {x:DInode} {j:Nat} (h:j < x.blocks.length) {u:Int} (ha:∀ b ∈ x.blocks.take j,b ≠ -1→ownerOf b=u) (hb:x.blocks[j] ≠ -1→ownerOf x.blocks[j]=u):∀ b ∈ x.blocks.take (j + 1),b ≠ -1→ownerOf b=u:=
 all_take_succ (P:=fun b=>b ≠ -1→ownerOf b=u) h ha hb
theorem nodup_snoc {l:List Int} {b:Int} (h:l.Nodup) (hb:b ∉ l):(l ++ [b]).Nodup:=by
 rw [List.nodup_append]
 refine ⟨h,by simp,?_⟩
 intro a ha c hc
 simp only [List.mem_singleton] at hc
 rintro rfl
 exact hb (hc ▸ ha)
def UsedOK (ns:List DInode):Prop:=(∀ n ∈ ns,OwnOK n)∧(allB ns).Nodup
noncomputable def usedR (ns:List DInode):List Bool:=if tr (UsedOK ns)=true then usedL (allB ns) else []
theorem usedR_yes {ns:List DInode} (h:UsedOK ns):usedR ns=usedL (allB ns):=by
 rw [usedR,if_pos (tr_yes h)]
theorem usedR_no {ns:List DInode} (h:¬ UsedOK ns):usedR ns = []:=by
 rw [usedR,if_neg (by rw [tr_iff];exact h)]
theorem tail_at {data:List Str} {x:DInode} {m:Nat} (hl:x.blocks.length=m + 1):TailOK data x↔(x.blocks[m] ≠ -1→zeroStr ((data.getD x.blocks[m].toNat []).drop (x.size - m * 32).toNat)=true):=by
 have h2:x.blocks.getLast? = some x.blocks[m]:=by
  rw [List.getLast?_eq_getElem?,List.getElem?_eq_getElem (by omega)]
  congr 2
  omega
 have h3:32 * ((x.blocks.length:Int) - 1)=m * 32:=by omega
 unfold TailOK
 rw [h3]
 constructor
 ·intro H hb
  exact H _ h2 hb
 ·intro H b hb hb1
  rw [h2] at hb
  cases hb
  exact H hb1
theorem tail_nil {data:List Str} {x:DInode} (hl:x.blocks.length=0):TailOK data x:=by
 intro b hb
 rw [List.length_eq_zero_iff.1 hl] at hb
 simp at hb
def zero32:Str:=List.replicate 32 0
def blkT (data:List Str) (b:Int):Str:=if b = -1 then zero32 else data.getD b.toNat []
def textB (data:List Str) (bs:List Int):Str:=bs.flatMap (blkT data)
theorem textB_take {data:List Str} {bs:List Int} {i:Nat} (h:i < bs.length):textB data (bs.take (i + 1))=textB data (bs.take i)++blkT data bs[i]:=by
 rw [List.take_succ_eq_append_getElem h,textB,List.flatMap_append]
 simp [textB]
def Blks (data:List Str) (bs:List Int):Prop:=data.length=56∧(∀ s ∈ data,s.length=32)∧∀ b ∈ bs,b ≠ -1→0≤b∧b < 56
theorem textB_len {data:List Str}:∀ {bs:List Int},Blks data bs→(textB data bs).length=32 * bs.length
 | [],_=>rfl
 | b :: bs,h=>by
  have h1:Blks data bs:=⟨h.1,h.2.1,fun c hc=>h.2.2 c (List.mem_cons_of_mem _ hc)⟩
  have h2:=textB_len h1
  have h3:(blkT data b).length=32:=by
   unfold blkT
   split
   ·rfl
   ·rename_i hb
    have h4:=h.2.2 b (List.mem_cons_self ..) hb
    have h5:b.toNat < data.length:=by rw [h.1];omega
    rw [List.getD_eq_getElem?_getD,List.getElem?_eq_getElem h5]
    exact h.2.1 _ (List.getElem_mem h5)
  rw [textB,List.flatMap_cons,List.length_append,←textB,h2,h3,List.length_cons]
  omega
theorem IsFS.blks {f:DFS} (h:IsFS f) {n:DInode} (hn:n ∈ f.inodes):Blks f.data n.blocks:=by
 refine ⟨h.nd,h.secs,fun b hb hb1 => ?_⟩
 have hu:=inode_used (h.inode _ hn) (List.length_pos_of_mem hb)
 exact owner_range (h.own _ hn b hb hb1) hu.uid.1
def contentN (data:List Str) (n:DInode):Str:=(textB data n.blocks).take n.size.toNat
theorem contentN_size {f:DFS} (h:IsFS f) {n:DInode} (hn:n ∈ f.inodes):0≤n.size∧n.size≤256∧n.size≤32 * n.blocks.length:=by
 rcases h.inode _ hn with rfl | hx
 ·simp [zeroInode]
 ·exact ⟨hx.size.1,hx.size.2,blocks_end hx⟩
theorem contentN_len {f:DFS} (h:IsFS f) {n:DInode} (hn:n ∈ f.inodes):((contentN f.data n).length:Int)=n.size:=by
 have h1:=contentN_size h hn
 rw [contentN,List.length_take,textB_len (h.blks hn)]
 omega
noncomputable def readB (f:DFS) (i a n:Int):Str:=if isFS f && hasI f i && decide (0≤a) && decide (0≤n) then ((contentN f.data (inodeAt f i)).drop a.toNat).take n.toNat else []
def zeroR (data:List Str) (bs:List Int):List Str:=bs.foldl (fun d b=>d.set b.toNat zero32) data
theorem zeroR_take {data:List Str} {bs:List Int} {i:Nat} (h:i < bs.length):zeroR data (bs.take (i + 1))=(zeroR data (bs.take i)).set bs[i].toNat zero32:=by
 unfold zeroR
 rw [foldl_take h]
theorem zeroR_len {bs:List Int}:∀ {data:List Str},(zeroR data bs).length=data.length:=by
 induction bs with
 | nil=>intro data;rfl
 | cons b bs ih=>
  intro data
  show (zeroR (data.set b.toNat zero32) bs).length=_
  rw [ih,List.length_set]
def freeF (f:DFS) (i:Int):DFS:=⟨f.tick,f.quotas,f.inodes.set i.toNat zeroInode,zeroR f.data (real (inodeAt f i).blocks)⟩
theorem set_set_comm {d:List Str} {a b:Nat} {z:Str}:(d.set a z).set b z=(d.set b z).set a z:=by
 by_cases h:a=b
 ·rw [h]
 ·exact List.set_comm z z h
theorem zeroR_comm {bs:List Int}:∀ {d:List Str} {a:Nat},zeroR (d.set a zero32) bs=(zeroR d bs).set a zero32:=by
 induction bs with
 | nil=>intro d a;rfl
 | cons b bs ih=>
  intro d a
  show zeroR ((d.set a zero32).set b.toNat zero32) bs=(zeroR (d.set b.toNat zero32) bs).set a zero32
  rw [set_set_comm,ih]
theorem zeroR_drop {data:List Str} {bs:List Int} {m:Nat} (h:m < bs.length):zeroR data (real (bs.drop m))=if bs[m] = -1 then zeroR data (real (bs.drop (m + 1))) else (zeroR data (real (bs.drop (m + 1)))).set bs[m].toNat zero32:=by
 rw [List.drop_eq_getElem_cons h,real,List.filter_cons]
 by_cases hb:bs[m] = -1
 ·simp [hb,real]
 ·rw [if_pos (by simpa using hb),if_neg hb]
  show zeroR (data.set bs[m].toNat zero32) (real (bs.drop (m + 1)))=_
  rw [zeroR_comm]
end Go.Fw
