/- The program's data as Lean's own, and how they lie in cells. -/
import Derived.Test.YtombegncnofnbaaFz
namespace Go.Fw
set_option linter.unusedVariables false
abbrev Str:=List UInt8
def cs (s:Str):List AV := [.str s]
def ci (n:Int):List AV := [.int .i64 n]
def cb (b:Bool):List AV := [.bool b]
structure DWrite where
 sec:Int
 data:Str
 deriving DecidableEq,Inhabited
def cWrite (w:DWrite):List AV := [.int .i64 w.sec, .str w.data]
structure DDisk where
 secs:List Str
 pend:List DWrite
 deriving DecidableEq,Inhabited
structure DStep where
 flush:Bool
 w:DWrite
 deriving DecidableEq,Inhabited
def cStep (s:DStep):List AV := [.bool s.flush, .int .i64 s.w.sec, .str s.w.data]
structure DAcl where
 tag:Int
 id:Int
 perm:Int
 deriving DecidableEq,Inhabited
def cAcl (a:DAcl):List AV := [.int .i64 a.tag, .int .i64 a.id, .int .i64 a.perm]
structure DCred where
 uid:Int
 gid:Int
 groups:List Int
 deriving DecidableEq,Inhabited
def cCred (c:DCred):List AV := [.int .i64 c.uid, .int .i64 c.gid, .row 1 (c.groups.map ci)]
structure DInode where
 kind:Int
 mode:Int
 uid:Int
 gid:Int
 links:Int
 size:Int
 tick:Int
 blocks:List Int
 acl:List DAcl
 dflt:List DAcl
 deriving DecidableEq,Inhabited
def cInode (n:DInode):List AV := [.int .i64 n.kind, .int .i64 n.mode, .int .i64 n.uid, .int .i64 n.gid, .int .i64 n.links, .int .i64 n.size, .int .i64 n.tick, .row 1 (n.blocks.map ci), .row 3 (n.acl.map cAcl), .row 3 (n.dflt.map cAcl)]
structure DQuota where
 inodes:Int
 blocks:Int
 deriving DecidableEq,Inhabited
def cQuota (q:DQuota):List AV := [.int .i64 q.inodes, .int .i64 q.blocks]
structure DFS where
 tick:Int
 quotas:List DQuota
 inodes:List DInode
 data:List Str
 deriving DecidableEq,Inhabited
structure DOpen where
 inode:Int
 pos:Int
 flags:Int
 deriving DecidableEq,Inhabited
def cOpen (o:DOpen):List AV := [.int .i64 o.inode, .int .i64 o.pos, .int .i64 o.flags]
structure DProc where
 cred:DCred
 files:List DOpen
 deriving DecidableEq,Inhabited
def cProc (p:DProc):List AV := [.int .i64 p.cred.uid, .int .i64 p.cred.gid, .row 1 (p.cred.groups.map ci), .row 3 (p.files.map cOpen)]
structure DSystem where
 fs:DFS
 procs:List DProc
 deriving DecidableEq,Inhabited
structure DEntry where
 name:Str
 inode:Int
 deriving DecidableEq,Inhabited
def cEntry (e:DEntry):List AV := [.str e.name, .int .i64 e.inode]
structure DCall where
 proc:Int
 kind:Int
 path:Str
 other:Str
 fd:Int
 n:Int
 m:Int
 data:Str
 acl:List DAcl
 dflt:List DAcl
 deriving DecidableEq,Inhabited
def cCall (c:DCall):List AV := [.int .i64 c.proc, .int .i64 c.kind, .str c.path, .str c.other, .int .i64 c.fd, .int .i64 c.n, .int .i64 c.m, .str c.data, .row 3 (c.acl.map cAcl), .row 3 (c.dflt.map cAcl)]
abbrev fDisk (a b:Option Bool) (d:DDisk):AV := .agg [.frz 1 a (d.secs.map cs), .frz 2 b (d.pend.map cWrite)]
abbrev rDisk (d:DDisk):AV := .agg [.row 1 (d.secs.map cs), .row 2 (d.pend.map cWrite)]
abbrev fCred (a:Option Bool) (c:DCred):AV := .agg [.int .i64 c.uid, .int .i64 c.gid, .frz 1 a (c.groups.map ci)]
abbrev rCred (c:DCred):AV := .agg [.int .i64 c.uid, .int .i64 c.gid, .row 1 (c.groups.map ci)]
abbrev fInode (a b d:Option Bool) (n:DInode):AV := .agg [.int .i64 n.kind, .int .i64 n.mode, .int .i64 n.uid, .int .i64 n.gid, .int .i64 n.links, .int .i64 n.size, .int .i64 n.tick, .frz 1 a (n.blocks.map ci), .frz 3 b (n.acl.map cAcl), .frz 3 d (n.dflt.map cAcl)]
abbrev rInode (n:DInode):AV := .agg [.int .i64 n.kind, .int .i64 n.mode, .int .i64 n.uid, .int .i64 n.gid, .int .i64 n.links, .int .i64 n.size, .int .i64 n.tick, .row 1 (n.blocks.map ci), .row 3 (n.acl.map cAcl), .row 3 (n.dflt.map cAcl)]
abbrev fFS (a b d:Option Bool) (f:DFS):AV := .agg [.int .i64 f.tick, .frz 2 a (f.quotas.map cQuota), .frz 10 b (f.inodes.map cInode), .frz 1 d (f.data.map cs)]
abbrev rFS (f:DFS):AV := .agg [.int .i64 f.tick, .row 2 (f.quotas.map cQuota), .row 10 (f.inodes.map cInode), .row 1 (f.data.map cs)]
abbrev pFS (a b d:Option Bool) (f:DFS):AV := .fptr [.int .i64 f.tick, .frz 2 a (f.quotas.map cQuota), .frz 10 b (f.inodes.map cInode), .frz 1 d (f.data.map cs)]
abbrev wFS (f:DFS):AV := .wptr [.int .i64 f.tick, .row 2 (f.quotas.map cQuota), .row 10 (f.inodes.map cInode), .row 1 (f.data.map cs)]
abbrev fSystem (a b d e:Option Bool) (s:DSystem):AV := .agg [.int .i64 s.fs.tick, .frz 2 a (s.fs.quotas.map cQuota), .frz 10 b (s.fs.inodes.map cInode), .frz 1 d (s.fs.data.map cs), .frz 4 e (s.procs.map cProc)]
abbrev rSystem (s:DSystem):AV := .agg [.int .i64 s.fs.tick, .row 2 (s.fs.quotas.map cQuota), .row 10 (s.fs.inodes.map cInode), .row 1 (s.fs.data.map cs), .row 4 (s.procs.map cProc)]
abbrev fCall (a b:Option Bool) (c:DCall):AV := .agg [.int .i64 c.proc, .int .i64 c.kind, .str c.path, .str c.other, .int .i64 c.fd, .int .i64 c.n, .int .i64 c.m, .str c.data, .frz 3 a (c.acl.map cAcl), .frz 3 b (c.dflt.map cAcl)]
abbrev rCall (c:DCall):AV := .agg [.int .i64 c.proc, .int .i64 c.kind, .str c.path, .str c.other, .int .i64 c.fd, .int .i64 c.n, .int .i64 c.m, .str c.data, .row 3 (c.acl.map cAcl), .row 3 (c.dflt.map cAcl)]
@[simp] theorem take_map_len {α β:Type} (f:α→β) (xs:List α):(xs.map f).take xs.length=xs.map f:=List.take_of_length_le (by simp)
theorem all_drop {α:Type} {p:α→Bool} {xs:List α} {i:Nat} (h:i < xs.length):(xs.drop i).all p=(p xs[i] && (xs.drop (i + 1)).all p):=by
 rw [List.drop_eq_getElem_cons h];rfl
theorem any_drop {α:Type} {p:α→Bool} {xs:List α} {i:Nat} (h:i < xs.length):(xs.drop i).any p=(p xs[i] || (xs.drop (i + 1)).any p):=by
 rw [List.drop_eq_getElem_cons h];rfl
theorem nf_map {α:Type} {c:α→List AV} {te:TI} {xs:List α} (h:∀ x,∀ a ∈ c x,flatC a=true):needFlat te (xs.map c):=by
 intro _ q hq a ha
 obtain ⟨x,-,rfl⟩:=List.mem_map.1 hq
 exact h x a ha
@[simp] theorem nf_cs {te:TI} {xs:List Str}:needFlat te (xs.map cs):=nf_map (by simp [cs])
@[simp] theorem nf_ci {te:TI} {xs:List Int}:needFlat te (xs.map ci):=nf_map (by simp [ci])
@[simp] theorem nf_cb {te:TI} {xs:List Bool}:needFlat te (xs.map cb):=nf_map (by simp [cb])
@[simp] theorem nf_cWrite {te:TI} {xs:List DWrite}:needFlat te (xs.map cWrite):=nf_map (by simp [cWrite])
@[simp] theorem nf_cStep {te:TI} {xs:List DStep}:needFlat te (xs.map cStep):=nf_map (by simp [cStep])
@[simp] theorem nf_cAcl {te:TI} {xs:List DAcl}:needFlat te (xs.map cAcl):=nf_map (by simp [cAcl])
@[simp] theorem nf_cQuota {te:TI} {xs:List DQuota}:needFlat te (xs.map cQuota):=nf_map (by simp [cQuota])
@[simp] theorem nf_cOpen {te:TI} {xs:List DOpen}:needFlat te (xs.map cOpen):=nf_map (by simp [cOpen])
@[simp] theorem nf_cEntry {te:TI} {xs:List DEntry}:needFlat te (xs.map cEntry):=nf_map (by simp [cEntry])
@[simp] theorem nf_nil {te:TI}:needFlat te []:=by intro _ q hq;cases hq
@[simp] theorem nf_cons {te:TI} {x:List AV} {xs:List (List AV)}:needFlat te (x :: xs)↔(te.flat=true→∀ a ∈ x,flatC a=true)∧needFlat te xs:=by
 simp only [needFlat,Flat,List.mem_cons,forall_eq_or_imp]
 constructor
 ·exact fun h=>⟨fun e=>(h e).1,fun e=>(h e).2⟩
 ·exact fun h e=>⟨h.1 e,h.2 e⟩
def fillTo {α:Type} (c:α→List AV) (z:List AV) (xs:List α) (i:Nat):List (List AV):=(xs.take i).map c++List.replicate (xs.length - i) z
section
variable {α:Type} {c:α→List AV} {z:List AV} {xs ms:List α} {i:Nat}
theorem fillTo_zero:List.replicate xs.length z=fillTo c z xs 0:=by simp [fillTo]
theorem fillTo_len (h:i≤xs.length):(fillTo c z xs i).length=xs.length:=by simp [fillTo];omega
theorem fillTo_at (h:i≤xs.length) (k:Nat):(fillTo c z xs i)[k]? = if k < i then (xs[k]?).map c else if k < xs.length then some z else none:=by
 simp only [fillTo,List.getElem?_append,List.length_map,List.length_take,List.getElem?_map,List.getElem?_take,List.getElem?_replicate,Nat.min_eq_left h]
 by_cases h1:k < i
 ·simp [h1]
 ·simp only [h1,if_false]
  by_cases h2:k < xs.length
  ·rw [if_pos h2,if_pos (by omega)]
  ·rw [if_neg h2,if_neg (by omega)]
theorem fillTo_get (h:i < xs.length):(fillTo c z xs i)[i]? = some z:=by
 rw [fillTo_at (by omega),if_neg (by omega),if_pos h]
theorem fillTo_set (h:i < xs.length):(fillTo c z xs i).set i (c xs[i])=fillTo c z xs (i + 1):=by
 apply List.ext_getElem?
 intro k
 rw [List.getElem?_set,fillTo_len (by omega),fillTo_at (by omega),fillTo_at (by omega)]
 by_cases hk:i=k
 ·subst hk
  simp [h]
 ·simp only [hk,if_false]
  by_cases h1:k < i
  ·rw [if_pos h1,if_pos (by omega)]
  ·rw [if_neg h1,if_neg (show ¬ k < i + 1 by omega)]
theorem fillTo_end:fillTo c z xs xs.length=xs.map c:=by simp [fillTo]
def patch (c:α→List AV) (ms xs:List α) (i:Nat):List (List AV):=(ms.take i++xs.drop i).map c
theorem patch_zero:xs.map c=patch c ms xs 0:=by simp [patch]
theorem patch_len (hm:ms.length=xs.length) (h:i≤xs.length):(patch c ms xs i).length=xs.length:=by simp [patch];omega
theorem patch_get (hm:ms.length=xs.length) (h:i < xs.length):(patch c ms xs i)[i]? = some (c xs[i]):=by
 simp only [patch,List.getElem?_map]
 rw [List.getElem?_append_right (by simp;omega)]
 simp [hm,Nat.min_eq_left (Nat.le_of_lt h),h]
theorem patch_set (hm:ms.length=xs.length) (h:i < xs.length):(patch c ms xs i).set i (c (ms[i]'(by omega)))=patch c ms xs (i + 1):=by
 apply List.ext_getElem?
 intro k
 simp only [patch,List.getElem?_set,List.length_map,List.length_append,List.length_take,List.length_drop,List.getElem?_map,List.getElem?_append,List.getElem?_take,List.getElem?_drop]
 by_cases hk:i=k
 ·subst hk
  rw [if_pos rfl,if_pos (by omega),if_pos (by omega),if_pos (by omega)]
  simp [hm,h]
 ·rw [if_neg hk]
  by_cases h1:k < i
  ·rw [if_pos (by omega),if_pos (by omega),if_pos (by omega),if_pos (by omega)]
  ·rw [if_neg (by omega),if_neg (by omega)]
   congr 2
   omega
theorem patch_put (hm:ms.length=xs.length) (h:i < xs.length) {y:α} (hy:ms[i]? = some y):(patch c ms xs i).set i (c y)=patch c ms xs (i + 1):=by
 rw [List.getElem?_eq_getElem (by omega)] at hy
 injection hy with hy
 rw [←hy]
 exact patch_set hm h
theorem patch_end (hm:ms.length=xs.length):patch c ms xs xs.length=ms.map c:=by
 simp only [patch,List.drop_length,List.append_nil]
 rw [List.take_of_length_le (by omega)]
end
def mkL {α:Type} (f:α→Int→α) (n:α→Nat):List α→Int→List α
 | [],_ => []
 | x :: xs,k=>f x k :: mkL f n xs (k + n x)
def wList {α:Type} (f:α→Nat):List α→Nat
 | []=>0
 | x :: xs=>f x + wList f xs
@[simp] theorem mkL_len {α:Type} {f:α→Int→α} {n:α→Nat}:∀ {xs:List α} {k:Int},(mkL f n xs k).length=xs.length
 | [],_=>rfl
 | x :: xs,k=>by simp [mkL,mkL_len (xs:=xs)]
@[simp] theorem take_mkL {α β:Type} {f:α→Int→α} {n:α→Nat} {c:α→β} {xs:List α} {k:Int}:((mkL f n xs k).map c).take xs.length=(mkL f n xs k).map c:=List.take_of_length_le (by simp)
theorem mkL_get {α:Type} {f:α→Int→α} {n:α→Nat}:∀ {xs:List α} {k:Int} {i:Nat} (h:i < xs.length),(mkL f n xs k)[i]? = some (f xs[i] (k + wList n (xs.take i)))
 | x :: xs,k,0,h=>by simp [mkL,wList]
 | x :: xs,k,i + 1,h=>by
  simp only [mkL,List.getElem?_cons_succ,List.getElem_cons_succ,List.take_succ_cons,wList]
  rw [mkL_get (by simpa using h)]
  simp [Int.add_assoc]
theorem wList_take {α:Type} {n:α→Nat}:∀ {xs:List α} {i:Nat} (h:i < xs.length),wList n (xs.take (i + 1))=wList n (xs.take i) + n xs[i]
 | x :: xs,0,h=>by simp [wList]
 | x :: xs,i + 1,h=>by
  simp only [List.take_succ_cons,wList,List.getElem_cons_succ]
  rw [wList_take (by simpa using h)]
  omega
theorem wList_take_le {α:Type} {n:α→Nat}:∀ {xs:List α} {i:Nat},wList n (xs.take i)≤wList n xs
 | [],i=>by simp [wList]
 | x :: xs,0=>by simp [wList]
 | x :: xs,i + 1=>by
  simp only [List.take_succ_cons,wList]
  have:=wList_take_le (n:=n) (xs:=xs) (i:=i)
  omega
theorem wList_mem {α:Type} {f:α→Nat}:∀ {xs:List α} {x:α},x ∈ xs→f x≤wList f xs
 | y :: ys,x,h=>by
  simp only [wList]
  rcases List.mem_cons.1 h with rfl | h
  ·omega
  ·have:=wList_mem (f:=f) h
   omega
theorem wList_one {α:Type}:∀ {xs:List α},wList (fun _=>1) xs=xs.length
 | []=>rfl
 | x :: xs=>by simp [wList,wList_one (xs:=xs)];omega
def szR (n:Nat) (left:Int):Int:=if left < n then -1 else left - n
theorem szR_step (a b:Nat) (l:Int):szR (a + b) l=if l - a < 0 then -1 else szR b (l - a):=by
 unfold szR
 split<;>split<;>(try split)<;>omega
theorem szR_lt {n:Nat} {l:Int} (h0:0≤l) (h:szR n l < 0):l - n < 0:=by
 unfold szR at h
 split at h<;>omega
theorem szR_ge {n:Nat} {l:Int} (h:0≤szR n l):szR n l=l - n∧0≤l - n:=by
 unfold szR at *
 split at h
 ·omega
 ·rename_i h1
  rw [if_neg h1]
  omega
theorem szR_m1 {n:Nat} {l:Int} (h0:0≤l) (h:szR n l < 0) : -1=szR n l:=by
 unfold szR at *
 split at h
 ·rename_i h1
  rw [if_pos h1]
 ·omega
theorem szR_zero {l:Int} (h:0≤l):szR 0 l=l:=by
 unfold szR
 rw [if_neg (by omega)]
 omega
theorem take_all {α:Type} {xs ys:List α} (h:xs.length=ys.length) (he:xs.take xs.length=ys.take xs.length):xs=ys:=by
 rw [List.take_of_length_le (Nat.le_refl _),List.take_of_length_le (by omega)] at he
 exact he
theorem take_step {α:Type} {xs ys:List α} {i:Nat} (h:i < xs.length) (h':i < ys.length) (he:xs.take i=ys.take i) (hx:xs[i]=ys[i]):xs.take (i + 1)=ys.take (i + 1):=by
 rw [List.take_succ_eq_append_getElem h,List.take_succ_eq_append_getElem h',he,hx]
theorem wList_drop {α:Type} (f:α→Nat) {xs:List α} {i:Nat} (h:i < xs.length):wList f (xs.drop i)=f xs[i] + wList f (xs.drop (i + 1)):=by
 rw [List.drop_eq_getElem_cons h];rfl
attribute [simp] cs ci cb cWrite cStep cAcl cOpen cEntry cQuota
def isSec (s:Str):Bool:=decide (s.length=32)
def isPend (n:Nat) (w:DWrite):Bool:=decide (0≤w.sec) && decide (w.sec < n) && decide (w.data.length=32)
def isDisk (d:DDisk):Bool:=decide (d.secs.length≤400) && decide (d.pend.length≤400) && d.secs.all isSec && d.pend.all (isPend d.secs.length)
theorem isDisk_pend {d:DDisk} (h:isDisk d=true):d.pend.length≤400:=by
 simp only [isDisk,Bool.and_eq_true,decide_eq_true_eq] at h
 exact h.1.1.2
theorem isDisk_secs {d:DDisk} (h:isDisk d=true):d.secs.length≤400:=by
 simp only [isDisk,Bool.and_eq_true,decide_eq_true_eq] at h
 exact h.1.1.1
def writeOK (d:DDisk) (i:Int) (data:Str):Bool:=decide (0≤i) && decide (i < d.secs.length) && decide (data.length=32) && decide (d.pend.length < 400)
def writeD (d:DDisk) (i:Int) (data:Str):DDisk × Bool:=if isDisk d && writeOK d i data then (⟨d.secs,d.pend ++ [⟨i,data⟩]⟩,true) else (d,false)
def storeAll (secs:List Str) (ws:List DWrite):List Str:=ws.foldl (fun s w=>s.set w.sec.toNat w.data) secs
def flushD (d:DDisk):DDisk:=if isDisk d then ⟨storeAll d.secs d.pend,[]⟩ else d
def stepD (d:DDisk) (s:DStep):DDisk:=if s.flush then flushD d else (writeD d s.w.sec s.w.data).1
def runSt (d:DDisk) (steps:List DStep) (n:Int):DDisk:=(steps.take n.toNat).foldl stepD d
theorem storeAll_len {secs:List Str} {ws:List DWrite}:(storeAll secs ws).length=secs.length:=by
 unfold storeAll
 induction ws generalizing secs with
 | nil=>rfl
 | cons w ws ih=>rw [List.foldl_cons,ih,List.length_set]
theorem storeAll_take {secs:List Str} {ws:List DWrite} {i:Nat} (h:i < ws.length):storeAll secs (ws.take (i + 1))=(storeAll secs (ws.take i)).set ws[i].sec.toNat ws[i].data:=by
 unfold storeAll
 rw [List.take_succ_eq_append_getElem h,List.foldl_append]
 rfl
theorem foldl_take {α β:Type} {f:α→β→α} {a:α} {xs:List β} {i:Nat} (h:i < xs.length):(xs.take (i + 1)).foldl f a=f ((xs.take i).foldl f a) xs[i]:=by
 rw [List.take_succ_eq_append_getElem h,List.foldl_append]
 rfl
theorem isDisk_iff {d:DDisk}:isDisk d=true↔d.secs.length≤400∧d.pend.length≤400∧(∀ s ∈ d.secs,s.length=32)∧∀ w ∈ d.pend,0≤w.sec∧w.sec < d.secs.length∧w.data.length=32:=by
 simp only [isDisk,isSec,isPend,Bool.and_eq_true,decide_eq_true_eq,List.all_eq_true]
 constructor
 ·exact fun h=>⟨h.1.1.1,h.1.1.2,h.1.2,fun w hw=>⟨(h.2 w hw).1.1,(h.2 w hw).1.2,(h.2 w hw).2⟩⟩
 ·exact fun h=>⟨⟨⟨h.1,h.2.1⟩,h.2.2.1⟩,fun w hw=>⟨⟨(h.2.2.2 w hw).1,(h.2.2.2 w hw).2.1⟩,(h.2.2.2 w hw).2.2⟩⟩
theorem storeAll_secs {secs:List Str} {ws:List DWrite} (h:∀ s ∈ secs,s.length=32) (hw:∀ w ∈ ws,w.data.length=32):∀ s ∈ storeAll secs ws,s.length=32:=by
 unfold storeAll
 induction ws generalizing secs with
 | nil=>exact h
 | cons w ws ih=>
  rw [List.foldl_cons]
  refine ih (fun s hs => ?_) (fun v hv=>hw v (by simp [hv]))
  rcases List.mem_or_eq_of_mem_set hs with h1 | rfl
  ·exact h s h1
  ·exact hw w (by simp)
theorem flushD_disk {d:DDisk} (h:isDisk d=true):isDisk (flushD d)=true:=by
 have h':=isDisk_iff.1 h
 rw [flushD,if_pos h,isDisk_iff]
 exact ⟨by rw [storeAll_len];exact h'.1,by simp,storeAll_secs h'.2.2.1 (fun w hw=>(h'.2.2.2 w hw).2.2),by simp⟩
theorem writeD_disk {d:DDisk} {i:Int} {s:Str} (h:isDisk d=true):isDisk (writeD d i s).1=true:=by
 unfold writeD
 split
 ·rename_i hw
  have h':=isDisk_iff.1 h
  rw [h,Bool.true_and] at hw
  simp only [writeOK,Bool.and_eq_true,decide_eq_true_eq] at hw
  rw [isDisk_iff]
  refine ⟨h'.1,by simp;omega,h'.2.2.1,fun w hm => ?_⟩
  rcases List.mem_append.1 hm with hm | hm
  ·exact h'.2.2.2 w hm
  ·obtain rfl:=List.mem_singleton.1 hm
   exact ⟨hw.1.1.1,hw.1.1.2,hw.1.2⟩
 ·exact h
theorem stepD_disk {d:DDisk} {s:DStep} (h:isDisk d=true):isDisk (stepD d s)=true:=by
 unfold stepD
 split
 ·exact flushD_disk h
 ·exact writeD_disk h
theorem stepD_flush {e:DDisk} {s:DStep} (h:isDisk e=true) (hf:s.flush=true):stepD e s=⟨storeAll e.secs e.pend,[]⟩:=by
 rw [stepD,if_pos hf,flushD,if_pos h]
theorem stepD_write {e:DDisk} {s:DStep} (h:isDisk e=true) (hf:s.flush=false):stepD e s=⟨e.secs,if writeOK e s.w.sec s.w.data=true then e.pend ++ [⟨s.w.sec,s.w.data⟩] else e.pend⟩:=by
 rw [stepD,hf,if_neg (by simp),writeD,h,Bool.true_and]
 split<;>rfl
theorem stepD_len {d:DDisk} {s:DStep}:(stepD d s).secs.length=d.secs.length∧(stepD d s).pend.length≤max d.pend.length 400:=by
 unfold stepD
 split
 ·unfold flushD
  split
  ·exact ⟨storeAll_len,by simp⟩
  ·exact ⟨rfl,by omega⟩
 ·unfold writeD
  split
  ·rename_i h
   simp only [Bool.and_eq_true,writeOK,decide_eq_true_eq] at h
   simp
   omega
  ·exact ⟨rfl,by simp only;omega⟩
theorem runSt_len {d:DDisk} {l:List DStep}:(l.foldl stepD d).secs.length=d.secs.length∧(l.foldl stepD d).pend.length≤max d.pend.length 400:=by
 induction l generalizing d with
 | nil=>exact ⟨rfl,by simp only [List.foldl_nil];omega⟩
 | cons s l ih=>
  have h1:=stepD_len (d:=d) (s:=s)
  have h2:=ih (d:=stepD d s)
  rw [List.foldl_cons]
  omega
theorem runSt_disk {d:DDisk} {l:List DStep} (h:isDisk d=true):isDisk (l.foldl stepD d)=true:=by
 induction l generalizing d with
 | nil=>exact h
 | cons s l ih=>exact ih (stepD_disk h)
theorem stepD_not {d:DDisk} {s:DStep} (h:isDisk d=false):stepD d s=d:=by
 unfold stepD flushD writeD
 simp [h]
theorem runSt_not {d:DDisk} {l:List DStep} (h:isDisk d=false):l.foldl stepD d=d:=by
 induction l with
 | nil=>rfl
 | cons s l ih=>rw [List.foldl_cons,stepD_not h,ih]
end Go.Fw
