/- Plain models: numbers in bytes, padding, cutting, entries of directories. -/
import Derived.Test.YtombegncnofnbaaM11
namespace Go.Fw
set_option linter.unusedVariables false
theorem takeM {α β:Type} {f:α→β} {xs:List α} {n:Nat} (h:xs.length=n):(xs.map f).take n=xs.map f:=List.take_of_length_le (by simp [h])
def cu (b:UInt8):List AV := [.int .u8 b.toNat]
attribute [simp] cu
theorem l2b (s:Str):listToBytes s=s.map cu:=rfl
theorem b2l:∀ (s:Str),bytesToList (s.map cu)=some s
 | []=>rfl
 | b :: s=>by
  show (bytesToList (s.map cu)).map (UInt8.ofNat (b.toNat:Int).toNat :: ·)=_
  rw [b2l s]
  simp
def lowB (n:Nat):Nat→Str
 | 0 => []
 | k + 1=>UInt8.ofNat (n / 256 ^ k) :: lowB n k
@[simp] theorem lowB_len {n:Nat}:∀ {k:Nat},(lowB n k).length=k
 | 0=>rfl
 | k + 1=>by rw [lowB,List.length_cons,lowB_len]
def putN (n:Int) (w:Nat):Str:=if 0≤n∧n < 256 ^ w then lowB n.toNat w else []
theorem putN_len (n:Int) (w:Nat):(putN n w).length≤w:=by
 unfold putN
 split<;>simp
def putR (n w k:Nat):Str:=List.replicate (w - k) 0++lowB n k
theorem putR_len {n w k:Nat} (h:k≤w):(putR n w k).length=w:=by simp [putR];omega
theorem putR_set {n w k:Nat} (h:k < w):(putR n w k).set (w - 1 - k) (UInt8.ofNat (n / 256 ^ k))=putR n w (k + 1):=by
 have h1:List.replicate (w - k) (0:UInt8)=List.replicate (w - 1 - k) 0 ++ [0]:=by
  rw [←List.replicate_succ']
  congr 1
  omega
 unfold putR
 rw [h1,List.append_assoc,List.set_append_right _ _ (by simp)]
 simp [lowB,show w - (k + 1)=w - 1 - k by omega]
theorem pow_256 {k:Nat}:256 ^ (k + 1)=256 ^ k * 256:=Nat.pow_succ ..
def getV (l:Str):Int:=l.foldl (fun n b=>n * 256 + b.toNat) 0
def getN (s:Str) (a w:Int):Int × Bool:=if (1≤w∧w≤6)∧0≤a∧a≤s.length - w then (getV ((s.drop a.toNat).take w.toNat),true) else (0,false)
theorem getV_snoc {l:Str} {b:UInt8}:getV (l ++ [b])=getV l * 256 + b.toNat:=by simp [getV,List.foldl_append]
theorem getV_pow (l:Str):0≤getV l∧getV l < 256 ^ l.length:=by
 have key:∀ (n:Nat) (l:Str),l.length=n→0≤getV l∧getV l < 256 ^ n:=by
  intro n
  induction n with
  | zero=>
   intro l hl
   rw [List.length_eq_zero_iff.1 hl]
   simp [getV]
  | succ n ih=>
   intro l hl
   have hne:l ≠ []:=by rintro rfl;simp at hl
   have h1:=List.dropLast_concat_getLast hne
   rw [←h1,getV_snoc]
   have h2:=ih l.dropLast (by simp;omega)
   have hb:((l.getLast hne).toNat:Int) < 256:=by have:=(l.getLast hne).toNat_lt;omega
   rw [Int.pow_succ]
   omega
 exact key _ l rfl
theorem getV_bound {l:Str} (hl:l.length≤5):0≤getV l∧getV l < 1099511627776:=by
 have h:=getV_pow l
 have h1:(256:Int) ^ l.length≤1099511627776:=by
  have h2:256 ^ l.length≤256 ^ 5:=Nat.pow_le_pow_right (by decide) hl
  have h3:(256 ^ l.length:Nat)≤(1099511627776:Nat):=h2
  have h4:((256 ^ l.length:Nat):Int)≤1099511627776:=by omega
  rwa [Int.natCast_pow] at h4
 omega
theorem getV2 {s:Str} {a:Nat}:0≤getV ((s.drop a).take 2)∧getV ((s.drop a).take 2)≤65535:=by
 have h:=getV_pow ((s.drop a).take 2)
 have h1:(256:Int) ^ ((s.drop a).take 2).length≤65536:=by
  have h2:256 ^ ((s.drop a).take 2).length≤256 ^ 2:=Nat.pow_le_pow_right (by decide) (by rw [List.length_take];omega)
  have h3:(256 ^ ((s.drop a).take 2).length:Nat)≤(65536:Nat):=h2
  have h4:((256 ^ ((s.drop a).take 2).length:Nat):Int)≤65536:=by omega
  rwa [Int.natCast_pow] at h4
 omega
theorem cut_snoc {s:Str} {a w:Nat} (h:a + w < s.length):(s.drop a).take (w + 1)=(s.drop a).take w ++ [s[a + w]]:=by
 have h1:w < (s.drop a).length:=by rw [List.length_drop];omega
 rw [List.take_succ_eq_append_getElem h1,List.getElem_drop]
def padTo (s:Str) (n:Nat):Str:=s++List.replicate (n - s.length) 0
theorem padTo_len {s:Str} {n:Nat}:(padTo s n).length=max s.length n:=by simp [padTo];omega
def chunk (s:Str) (n k:Nat):Str:=(s.drop (k * n)).take n
def nChunks (s:Str) (n:Nat):Nat:=(s.length + (n - 1)) / n
def cutN (s:Str) (n k:Nat):List Str:=(List.range k).map (chunk s n)
@[simp] theorem cutN_len {s:Str} {n k:Nat}:(cutN s n k).length=k:=by simp [cutN]
theorem cutN_succ {s:Str} {n k:Nat}:cutN s n (k + 1)=cutN s n k ++ [chunk s n k]:=by simp [cutN,List.range_succ]
theorem cutN_get {s:Str} {n k i:Nat} (h:i < (cutN s n k).length):(cutN s n k)[i]=chunk s n i:=by simp [cutN]
def isNm (b:UInt8):Bool := !decide (b=0) && !decide (b=47)
def nameOK (s:Str):Bool:=decide (1≤s.length) && decide (s.length≤12) && s.all isNm && !decide (s = [46]) && !decide (s = [46,46])
def recordOf (e:DEntry):Str:=padTo (putN (e.inode + 1) 2++putN e.name.length 1++e.name) 16
def entryAt (s:Str):DEntry:=⟨(s.drop 3).take (s.getD 2 0).toNat,getV (s.take 2) - 1⟩
def goodE (s:Str):Bool:=decide ((s.getD 2 0).toNat≤12) && decide (0≤(entryAt s).inode) && decide ((entryAt s).inode < 20) && nameOK (entryAt s).name && decide (recordOf (entryAt s)=s)
def entryOf (s:Str):Option DEntry:=if s.length=16∧goodE s=true then some (entryAt s) else none
def entriesT (t:Str) (k:Nat):List DEntry:=(List.range k).filterMap (fun k=>entryOf (chunk t 16 k))
def entriesL (t:Str):List DEntry:=entriesT t (nChunks t 16)
theorem entriesT_succ {t:Str} {k:Nat}:entriesT t (k + 1)=match entryOf (chunk t 16 k) with | some e=>entriesT t k ++ [e] | none=>entriesT t k:=by
 simp only [entriesT,List.range_succ,List.filterMap_append]
 cases h:entryOf (chunk t 16 k)<;>simp [h]
theorem entriesT_len {t:Str} {k:Nat}:(entriesT t k).length≤k:=by
 have:=List.length_filterMap_le (fun k=>entryOf (chunk t 16 k)) (List.range k)
 simpa [entriesT] using this
theorem chunk_len {s:Str} {n k:Nat}:(chunk s n k).length=min n (s.length - k * n):=by simp [chunk]
theorem entriesL_full (t:Str):entriesL t=entriesT t (t.length / 16):=by
 unfold entriesL nChunks
 by_cases h:t.length % 16=0
 ·congr 1
  omega
 ·have h1:(t.length + (16 - 1)) / 16=t.length / 16 + 1:=by omega
  rw [h1,entriesT_succ]
  have h2:entryOf (chunk t 16 (t.length / 16))=none:=by
   unfold entryOf
   rw [if_neg]
   rintro ⟨h3,-⟩
   rw [chunk_len] at h3
   omega
  rw [h2]
noncomputable def entriesI (f:DFS) (d:Int):List DEntry:=entriesL (contentN f.data (inodeAt f d))
def findE:List DEntry→Str→Int × Bool
 | [],_=>(0,false)
 | e :: l,s=>if e.name=s then (e.inode,true) else findE l s
theorem findE_skip {l:List DEntry} {s:Str}:∀ {i:Nat},(∀ k (h:k < l.length),k < i→l[k].name≠s)→findE l s=findE (l.drop i) s:=by
 induction l with
 | nil=>intro i _;simp
 | cons e l ih=>
  intro i h
  cases i with
  | zero=>rfl
  | succ i=>
   have h0:=h 0 (by simp) (by omega)
   rw [findE,if_neg (by simpa using h0),List.drop_succ_cons]
   exact ih fun k hk hki=>by
    have:=h (k + 1) (by simp only [List.length_cons];omega) (by omega)
    rwa [List.getElem_cons_succ] at this
def quotaAt (f:DFS) (u:Int):DQuota:=f.quotas.getD u.toNat ⟨0,0⟩
theorem quotaAt_nat {f:DFS} {k:Nat} (h:k < f.quotas.length):quotaAt f k=f.quotas[k]:=by simp [quotaAt,h]
def InR (ns:List DInode):Prop:=∀ n ∈ ns,∀ b ∈ n.blocks,b ≠ -1→0≤b∧b < 56
def poolT (B:List Int) (lo n:Nat):Nat:=((List.range n).filter (fun j=>decide (((lo + j:Nat):Int) ∈ B))).length
theorem poolT_succ {B:List Int} {lo n:Nat}:poolT B lo (n + 1)=poolT B lo n + if ((lo + n:Nat):Int) ∈ B then 1 else 0:=by
 simp only [poolT,List.range_succ,List.filter_append,List.length_append]
 by_cases h:((lo + n:Nat):Int) ∈ B
 ·rw [if_pos h,List.filter_cons,if_pos (decide_eq_true h)]
  rfl
 ·rw [if_neg h,List.filter_cons,if_neg (by rw [decide_eq_true_eq];exact h)]
  rfl
theorem poolT_le {B:List Int} {lo n:Nat}:poolT B lo n≤n:=by
 have:=List.length_filter_le (fun j=>decide (((lo + j:Nat):Int) ∈ B)) (List.range n)
 simpa [poolT] using this
def nextFree (B:List Int):Nat→Nat→Int × Int
 | _,0=>(0,8)
 | lo,n + 1=>if (lo:Int) ∈ B then nextFree B (lo + 1) n else (lo,0)
def nextB (f:DFS) (u:Int):Int × Int:=if (quotaAt f u).blocks≤poolT (allB f.inodes) (14 * u.toNat) 14 then (0,7) else nextFree (allB f.inodes) (14 * u.toNat) 14
theorem nextFree_ok {B:List Int}:∀ {n lo:Nat},(nextFree B lo n).2=0→∃ k:Nat,(nextFree B lo n).1=k∧lo≤k∧k < lo + n∧(k:Int) ∉ B
 | 0,lo,h=>by simp [nextFree] at h
 | n + 1,lo,h=>by
  rw [nextFree] at h ⊢
  split
  ·rename_i hm
   rw [if_pos hm] at h
   obtain ⟨k,h1,h2,h3,h4⟩:=nextFree_ok h
   exact ⟨k,h1,by omega,by omega,h4⟩
  ·rename_i hm
   exact ⟨lo,rfl,Nat.le_refl _,by omega,hm⟩
theorem nextB_ok {f:DFS} {u:Int} (hu:IsUser u) (h:(nextB f u).2=0):∃ k:Nat,(nextB f u).1=k∧k < 56∧ownerOf k=u∧(k:Int) ∉ allB f.inodes:=by
 unfold nextB at h ⊢
 split
 ·rename_i hq
  rw [if_pos hq] at h
  cases h
 ·rename_i hq
  rw [if_neg hq] at h
  obtain ⟨k,h1,h2,h3,h4⟩:=nextFree_ok h
  refine ⟨k,h1,by omega,?_,h4⟩
  unfold ownerOf
  rw [if_pos (by omega)]
  omega
theorem nextFree_code {B:List Int}:∀ {n lo:Nat},(nextFree B lo n).2=0∨(nextFree B lo n).2=8
 | 0,lo => .inr rfl
 | n + 1,lo=>by
  rw [nextFree]
  split
  ·exact nextFree_code
  ·exact .inl rfl
theorem poolT_congr {A B:List Int} {lo:Nat}:∀ {n:Nat},(∀ k:Nat,lo≤k→k < lo + n→((k:Int) ∈ A↔(k:Int) ∈ B))→poolT A lo n=poolT B lo n
 | 0,_=>rfl
 | n + 1,h=>by
  rw [poolT_succ,poolT_succ,poolT_congr (fun k h1 h2=>h k h1 (by omega))]
  have:=h (lo + n) (by omega) (by omega)
  by_cases hm:((lo + n:Nat):Int) ∈ A
  ·rw [if_pos hm,if_pos (this.1 hm)]
  ·rw [if_neg hm,if_neg (fun h=>hm (this.2 h))]
theorem nextFree_congr {A B:List Int}:∀ {n lo:Nat},(∀ k:Nat,lo≤k→k < lo + n→((k:Int) ∈ A↔(k:Int) ∈ B))→nextFree A lo n=nextFree B lo n
 | 0,lo,_=>rfl
 | n + 1,lo,h=>by
  have h0:=h lo (Nat.le_refl _) (by omega)
  rw [nextFree,nextFree,nextFree_congr (n:=n) (lo:=lo + 1) (fun k h1 h2=>h k (by omega) (by omega))]
  by_cases hm:(lo:Int) ∈ A
  ·rw [if_pos hm,if_pos (h0.1 hm)]
  ·rw [if_neg hm,if_neg (fun h=>hm (h0.2 h))]
theorem nextB_congr {f g:DFS} {u:Int} (hu:IsUser u) (hq:f.quotas=g.quotas) (h:∀ k:Nat,ownerOf k=u→((k:Int) ∈ allB f.inodes↔(k:Int) ∈ allB g.inodes)):nextB f u=nextB g u:=by
 have hk:∀ k:Nat,14 * u.toNat≤k→k < 14 * u.toNat + 14→((k:Int) ∈ allB f.inodes↔(k:Int) ∈ allB g.inodes):=fun k h1 h2=>h k (by unfold ownerOf;rw [if_pos (by omega)];omega)
 unfold nextB quotaAt
 rw [poolT_congr hk,nextFree_congr hk,hq]
def ownN (u:Int) (B:List Int):Nat:=(B.filter (fun b=>decide (ownerOf b=u))).length
theorem ownN_append {u:Int} {A B:List Int}:ownN u (A++B)=ownN u A + ownN u B:=by simp [ownN]
theorem ownN_one {u b:Int}:ownN u [b]=if ownerOf b=u then 1 else 0:=by
 by_cases h:ownerOf b=u<;>simp [ownN,h]
theorem poolT_cons {B:List Int} {b:Int} {lo:Nat} (hb:b ∉ B):∀ {n:Nat},poolT (b :: B) lo n=poolT B lo n + if (lo:Int)≤b∧b < lo + n then 1 else 0
 | 0=>by
  rw [if_neg (by omega)]
  rfl
 | n + 1=>by
  rw [poolT_succ,poolT_succ,poolT_cons hb]
  by_cases h1:((lo + n:Nat):Int)=b
  ·subst h1
   rw [if_neg (by omega),if_pos (by simp),if_neg hb,if_pos (by omega)]
  ·by_cases h2:((lo + n:Nat):Int) ∈ B
   ·rw [if_pos (List.mem_cons_of_mem _ h2),if_pos h2]
    by_cases h3:(lo:Int)≤b∧b < lo + n
    ·rw [if_pos h3,if_pos (by omega)]
    ·rw [if_neg h3,if_neg (by omega)]
   ·rw [if_neg (fun hm=>(List.mem_cons.1 hm).elim h1 h2),if_neg h2]
    by_cases h3:(lo:Int)≤b∧b < lo + n
    ·rw [if_pos h3,if_pos (by omega)]
    ·rw [if_neg h3,if_neg (by omega)]
theorem ownN_pool {u:Int} (hu:IsUser u):∀ {B:List Int},B.Nodup→(∀ b ∈ B,0≤b∧b < 56)→ownN u B=poolT B (14 * u.toNat) 14
 | [],_,_=>by
  have:∀ n,poolT [] (14 * u.toNat) n=0:=fun n=>by simp [poolT]
  rw [this]
  rfl
 | b :: B,hn,hr=>by
  have h1:=List.nodup_cons.1 hn
  have h2:=ownN_pool hu h1.2 (fun c hc=>hr c (List.mem_cons_of_mem _ hc))
  have h3:=hr b (List.mem_cons_self ..)
  rw [poolT_cons h1.1,←h2,show b :: B = [b]++B from rfl,ownN_append,ownN_one]
  unfold ownerOf
  rw [if_pos h3]
  by_cases h4:b / 14=u
  ·rw [if_pos h4,if_pos (by omega)]
   omega
  ·rw [if_neg h4,if_neg (by omega)]
   omega
theorem allB_inR {ns:List DInode} (h:InR ns):∀ b ∈ allB ns,0≤b∧b < 56:=by
 intro b hb
 obtain ⟨n,hn,hm⟩:=List.mem_flatMap.1 hb
 have:=mem_real.1 hm
 exact h n hn b this.1 this.2
def growB (l:List Int) (m:Nat):List Int:=l++List.replicate (m - l.length) (-1)
theorem growB_len {l:List Int} {m:Nat}:(growB l m).length=max l.length m:=by simp [growB];omega
theorem growB_zero {l:List Int} {m:Nat} (h:m≤l.length):growB l m=l:=by
 rw [growB,Nat.sub_eq_zero_of_le h]
 simp
theorem growB_step {l:List Int} {m:Nat} (h:l.length≤m):growB l (m + 1)=growB l m ++ [-1]:=by
 rw [growB,growB,Nat.succ_sub h,List.replicate_succ',List.append_assoc]
theorem real_growB {l:List Int} {m:Nat}:real (growB l m)=real l:=by
 unfold real growB
 rw [List.filter_append]
 simp
theorem mem_growB {l:List Int} {m:Nat} {b:Int} (h:b ∈ growB l m) (hb:b ≠ -1):b ∈ l:=by
 rcases List.mem_append.1 h with h | h
 ·exact h
 ·exact absurd (List.mem_replicate.1 h).2 hb
def sized (n:DInode) (e:Int):DInode:={ n with size:=max n.size e,blocks:=growB n.blocks (blocksNeeded (max n.size e)).toNat }
def setI (f:DFS) (i:Nat) (n:DInode):DFS:=⟨f.tick,f.quotas,f.inodes.set i n,f.data⟩
def putS (old:Str) (a b:Nat) (s:Str):Str:=old.take a++s++old.drop b
def wBlk (f:DFS) (i:Nat) (n:DInode) (k:Nat):Int × Int:=if n.blocks.getD k 0 = -1 then nextB (setI f i n) n.uid else (n.blocks.getD k 0,0)
def wN (n:DInode) (k:Nat) (b:Int):DInode:={ n with blocks:=n.blocks.set k b }
def wFrom (a k:Nat):Nat:=max a (32 * k)
def wTo (a k:Nat) (s:Str):Nat:=min (a + s.length) (32 * k + 32)
def wPart (a k:Nat) (s:Str):Str:=(s.drop (wFrom a k - a)).take (wTo a k s - wFrom a k)
def wD (D:List Str) (b:Int) (a k:Nat) (s:Str):List Str:=D.set b.toNat (putS (D.getD b.toNat []) (wFrom a k - 32 * k) (wTo a k s - 32 * k) (wPart a k s))
def wLoop (f:DFS) (i a:Nat) (s:Str):Nat→Nat→DInode→List Str→DInode × List Str × Int
 | 0,_,n,D=>(n,D,0)
 | m + 1,k,n,D=>if (wBlk f i n k).2=0 then wLoop f i a s m (k + 1) (wN n k (wBlk f i n k).1) (wD D (wBlk f i n k).1 a k s) else (n,D,(wBlk f i n k).2)
def wSteps (a:Nat) (s:Str):Nat:=(a + s.length - 1) / 32 + 1 - a / 32
def writeL (f:DFS) (i a:Nat) (s:Str):DInode × List Str × Int:=wLoop f i a s (wSteps a s) (a / 32) (sized (inodeAt f i) (a + s.length)) f.data
def writeF (f:DFS) (i a:Int) (s:Str):DFS × Int:=
 if a < 0 then (f,1) else if 256 < a + s.length then (f,9) else if s = [] then (f,0)
 else (⟨f.tick,f.quotas,f.inodes.set i.toNat (writeL f i.toNat a.toNat s).1,(writeL f i.toNat a.toNat s).2.1⟩,(writeL f i.toNat a.toNat s).2.2)
theorem InR_set {ns:List DInode} {i:Nat} {n:DInode} (h:InR ns) (hn:∀ b ∈ n.blocks,b ≠ -1→0≤b∧b < 56):InR (ns.set i n):=by
 intro m hm
 rcases List.mem_or_eq_of_mem_set hm with h1 | rfl
 ·exact h m h1
 ·exact hn
structure WI (f:DFS) (i k0:Nat) (n:DInode) (D:List Str):Prop where
 sm:SmF f
 nq:f.quotas.length=4
 ni:f.inodes.length=20
 hi:i < 20
 rng:InR f.inodes
 blk:∀ b ∈ n.blocks,b ≠ -1→0≤b∧b < 56
 len:n.blocks.length=k0
 le8:k0≤8
 acl:n.acl.length≤6∧n.dflt.length≤6
 uid:IsUser n.uid
 nd:D.length=56
 secs:∀ s ∈ D,s.length=32
theorem WI.smF {f:DFS} {i k0:Nat} {n:DInode} {D:List Str} (h:WI f i k0 n D):SmF ⟨f.tick,f.quotas,f.inodes.set i n,D⟩:=by
 refine ⟨h.sm.quotas,by simpa using h.sm.inodes,fun m hm => ?_,by simp only;rw [h.nd];decide⟩
 rcases List.mem_or_eq_of_mem_set hm with h1 | rfl
 ·exact h.sm.inode m h1
 ·have h1:=h.len
  have h2:=h.le8
  have h3:=h.acl
  exact ⟨by omega,by omega,by omega⟩
theorem WI.inR {f:DFS} {i k0:Nat} {n:DInode} {D:List Str} (h:WI f i k0 n D):InR (f.inodes.set i n):=InR_set h.rng h.blk
theorem wBlk_ok {f:DFS} {i k0 k:Nat} {n:DInode} {D:List Str} (h:WI f i k0 n D) (hk:k < k0) (h0:(wBlk f i n k).2=0):∃ b:Nat,(wBlk f i n k).1=b∧b < 56:=by
 have hl:=h.len
 have hkl:k < n.blocks.length:=by omega
 have hg:n.blocks.getD k 0=n.blocks[k]:=by simp [hkl]
 unfold wBlk at h0 ⊢
 rw [hg] at h0 ⊢
 split
 ·rename_i hb
  rw [if_pos hb] at h0
  obtain ⟨b,h1,h2,-,-⟩:=nextB_ok h.uid h0
  exact ⟨b,h1,h2⟩
 ·rename_i hb
  obtain ⟨h1,h2⟩:=h.blk _ (List.getElem_mem hkl) hb
  obtain ⟨b,hb2⟩:=Int.eq_ofNat_of_zero_le h1
  exact ⟨b,hb2,by omega⟩
theorem putS_len {old s:Str} {a b:Nat} (h:old.length=32) (ha:a≤32) (hb:b≤32) (hs:a + s.length=b):(putS old a b s).length=32:=by
 simp only [putS,List.length_append,List.length_take,List.length_drop]
 omega
theorem WI.step {f:DFS} {i k0 k a:Nat} {s:Str} {n:DInode} {D:List Str} (h:WI f i k0 n D) (hk:k < k0) (h0:(wBlk f i n k).2=0) (ha:a < 32 * k + 32) (hs:32 * k < a + s.length):WI f i k0 (wN n k (wBlk f i n k).1) (wD D (wBlk f i n k).1 a k s):=by
 obtain ⟨b,h1,h2⟩:=wBlk_ok h hk h0
 rw [h1]
 refine ⟨h.sm,h.nq,h.ni,h.hi,h.rng,fun c hc hc1 => ?_,by simpa [wN] using h.len,h.le8,h.acl,h.uid,by simpa [wD] using h.nd,fun t ht => ?_⟩
 ·rcases List.mem_or_eq_of_mem_set hc with h3 | rfl
  ·exact h.blk c h3 hc1
  ·exact ⟨by omega,by omega⟩
 ·rcases List.mem_or_eq_of_mem_set ht with h3 | rfl
  ·exact h.secs t h3
  ·have hbD:b < D.length:=by rw [h.nd];exact h2
   have h4:=h.secs _ (List.getElem_mem hbD)
   simp only [Int.toNat_natCast,List.getD_eq_getElem?_getD,List.getElem?_eq_getElem hbD,Option.getD_some]
   refine putS_len h4 ?_ ?_ ?_
   ·simp only [wFrom];omega
   ·simp only [wTo];omega
   ·simp only [wPart,wFrom,wTo,List.length_take,List.length_drop];omega
theorem WI.start {f:DFS} {i:Nat} {n:DInode} {e:Int} (hs:SmF f) (nq:f.quotas.length=4) (ni:f.inodes.length=20) (hi:i < 20) (hr:InR f.inodes) (hn:f.inodes[i]? = some n) (hin:InodeOK n) (he:e≤256) (nd:f.data.length=56) (hd:∀ s ∈ f.data,s.length=32):WI f i (blocksNeeded (max n.size e)).toNat (sized n e) f.data:=by
 have h1:=hin.blocks
 have h2:=hin.size
 have h3:=blocksNeeded_le (s:=max n.size e) (by omega)
 have h4:blocksNeeded n.size≤blocksNeeded (max n.size e):=by
  unfold blocksNeeded
  split<;>split<;>omega
 refine ⟨hs,nq,ni,hi,hr,fun b hb hb1 => ?_,?_,by omega,⟨hin.acl.1,hin.dflt.1⟩,hin.uid,nd,hd⟩
 ·exact hr n (List.mem_of_getElem? hn) b (mem_growB hb hb1) hb1
 ·simp only [sized,growB_len]
  omega
theorem wD_cells {D:List Str} {b A k:Nat} {s O:Str} (hb:b < D.length) (hO:D[b]=O) (hl:O.length=32) (h:32 * k≤wFrom A k∧A≤wFrom A k∧wFrom A k < wTo A k s∧wTo A k s≤A + s.length∧wTo A k s≤32 * k + 32) :
  (List.map cs D).set b [.str (List.take ((wFrom A k:Int) - (k:Int) * 32).toNat O++(List.take ((wTo A k s:Int) - (A:Int) - ((wFrom A k:Int) - (A:Int))).toNat (List.drop (wFrom A k - A) s)++List.take (32 - ((wTo A k s:Int) - (k:Int) * 32)).toNat (List.drop ((wTo A k s:Int) - (k:Int) * 32).toNat O)))]=(wD D b A k s).map cs:=by
 have e1:((wFrom A k:Int) - (k:Int) * 32).toNat=wFrom A k - 32 * k:=by omega
 have e2:((wTo A k s:Int) - (A:Int) - ((wFrom A k:Int) - (A:Int))).toNat=wTo A k s - wFrom A k:=by omega
 have e3:((wTo A k s:Int) - (k:Int) * 32).toNat=wTo A k s - 32 * k:=by omega
 have e4:List.take (32 - ((wTo A k s:Int) - (k:Int) * 32)).toNat (List.drop (wTo A k s - 32 * k) O)=List.drop (wTo A k s - 32 * k) O:=List.take_of_length_le (by rw [List.length_drop];omega)
 have hd:D.getD b []=O:=by simp [hb,hO]
 rw [e1,e2,e3,e4,wD,Int.toNat_natCast,hd,List.map_set,putS,wPart,List.append_assoc]
 rfl
theorem wN_same {n:DInode} {k:Nat} {b:Int} (h:k < n.blocks.length) (hb:n.blocks[k]=b):wN n k b=n:=by
 unfold wN
 rw [←hb,List.set_getElem_self]
theorem allB_set {ns:List DInode} {i:Nat} {n:DInode} (h:i < ns.length):allB (ns.set i n)=allB (ns.take i)++(real n.blocks++allB (ns.drop (i + 1))):=by
 rw [List.set_eq_take_append_cons_drop,if_pos h]
 simp [allB]
theorem allB_set_congr {ns:List DInode} {i:Nat} {n m:DInode} (h:i < ns.length) (hr:real n.blocks=real m.blocks):allB (ns.set i n)=allB (ns.set i m):=by
 rw [allB_set h,allB_set h,hr]
theorem allB_set_self {ns:List DInode} {i:Nat} {n:DInode} (h:i < ns.length) (hr:real n.blocks=real ns[i].blocks):allB (ns.set i n)=allB ns:=by
 rw [allB_set_congr h hr,List.set_getElem_self]
theorem nodup_mid {A B:List Int} {b:Int} (h:(A++B).Nodup) (hb:b ∉ A++B):(A++b :: B).Nodup:=
 (List.perm_middle.nodup_iff).2 (List.nodup_cons.2 ⟨hb,h⟩)
theorem real_set {l:List Int} {k:Nat} {b:Int} (h:k < l.length) (hk:l[k] = -1) (hb:b ≠ -1):real l=real (l.take k)++real (l.drop (k + 1))∧real (l.set k b)=real (l.take k)++b :: real (l.drop (k + 1)):=by
 constructor
 ·have h1:l.take k++l[k] :: l.drop (k + 1)=l:=by rw [←List.drop_eq_getElem_cons h,List.take_append_drop]
  have h2:=congrArg real h1
  rw [←h2,real,List.filter_append,List.filter_cons,if_neg (by simp [hk])]
  rfl
 ·rw [List.set_eq_take_append_cons_drop,if_pos h,real,List.filter_append,List.filter_cons,if_pos (by simpa using hb)]
  rfl
structure WV (ns:List DInode) (i:Nat) (n:DInode):Prop where
 ok:InodeOK n
 own:OwnOK n
 once:(allB (ns.set i n)).Nodup
theorem WV.used {ns:List DInode} {i:Nat} {n:DInode} (h:WV ns i n) (hn:∀ m ∈ ns,OwnOK m):UsedOK (ns.set i n):=by
 refine ⟨fun m hm => ?_,h.once⟩
 rcases List.mem_or_eq_of_mem_set hm with h1 | rfl
 ·exact hn m h1
 ·exact h.own
theorem WV.inodes {ns:List DInode} {i:Nat} {n:DInode} (h:WV ns i n) (hn:∀ m ∈ ns,IsInode m):∀ m ∈ ns.set i n,IsInode m:=by
 intro m hm
 rcases List.mem_or_eq_of_mem_set hm with h1 | rfl
 ·exact hn m h1
 ·exact .inr h.ok
theorem take_set_mem {l:List Int} {k j:Nat} {b c:Int} (h:c ∈ (l.set k b).take j):c ∈ l.take j∨c=b:=by
 rw [List.take_set] at h
 exact List.mem_or_eq_of_mem_set h
theorem WV.step {ns:List DInode} {i k:Nat} {n:DInode} {b:Nat} (h:WV ns i n) (hi:i < ns.length) (hk:k < n.blocks.length) (hb:n.blocks[k] = -1) (hb56:b < 56) (ho:ownerOf b=n.uid) (hf:(b:Int) ∉ allB (ns.set i n)):WV ns i (wN n k b):=by
 have hb1:(b:Int) ≠ -1:=by omega
 have hin:(b:Int) ∉ n.blocks:=fun hm=>hf (by
  rw [allB_set hi]
  exact List.mem_append_right _ (List.mem_append_left _ (mem_real.2 ⟨hm,hb1⟩)))
 have hr:=real_set hk hb hb1
 refine ⟨?_,?_,?_⟩
 ·have:=h.ok
  refine ⟨this.kind,this.mode,this.uid,this.gid,this.links,this.size,this.tick,by simpa [wN] using this.blocks,?_,this.acl,this.dflt,this.file⟩
  intro j hj c hc
  simp only [wN,List.length_set] at hj
  simp only [wN] at hc ⊢
  rw [List.getElem?_set] at hc
  by_cases e:k=j
  ·subst e
   rw [if_pos rfl,if_pos hk] at hc
   injection hc with hc
   subst hc
   refine .inr ⟨by omega,fun hm => ?_⟩
   rw [List.take_set_of_le (Nat.le_refl _)] at hm
   exact hin (List.mem_of_mem_take hm)
  ·rw [if_neg e] at hc
   have hcm:=List.mem_of_getElem? hc
   rcases this.blk j hj c hc with h1 | ⟨h1,h2⟩
   ·exact .inl h1
   ·refine .inr ⟨h1,fun hm => ?_⟩
    rcases take_set_mem hm with h3 | rfl
    ·exact h2 h3
    ·exact hin hcm
 ·intro c hc hc1
  rcases List.mem_or_eq_of_mem_set hc with h1 | rfl
  ·exact h.own c h1 hc1
  ·exact ho
 ·have h1:=h.once
  rw [allB_set hi] at h1 hf ⊢
  simp only [wN]
  rw [hr.2]
  rw [hr.1] at h1 hf
  have e:∀ (A B C E:List Int),A++(B++C++E)=(A++B)++(C++E):=by intros;simp
  have e2:∀ (A B C E:List Int),A++(B++(b:Int) :: C++E)=(A++B)++(b:Int) :: (C++E):=by intros;simp
  rw [e] at h1 hf
  rw [e2]
  exact nodup_mid h1 hf
theorem WV.start {ns:List DInode} {i:Nat} {n:DInode} {e:Int} (hi:i < ns.length) (hn:ns[i]=n) (hin:InodeOK n) (he:e≤256) (how:∀ m ∈ ns,OwnOK m) (hon:(allB ns).Nodup):WV ns i (sized n e):=by
 have h1:=hin.blocks
 have h2:=hin.size
 have h3:=blocksNeeded_le (s:=max n.size e) (by omega)
 have h4:blocksNeeded n.size≤blocksNeeded (max n.size e):=by
  unfold blocksNeeded
  split<;>split<;>omega
 have h5:=blocksNeeded_nn (s:=max n.size e)
 refine ⟨⟨hin.kind,hin.mode,hin.uid,hin.gid,hin.links,?_,hin.tick,?_,?_,hin.acl,hin.dflt,hin.file⟩,?_,?_⟩
 ·simp only [sized];omega
 ·simp only [sized,growB_len];omega
 ·intro j hj c hc
  simp only [sized] at hc ⊢
  by_cases hc1:c = -1
  ·exact .inl hc1
  have hjl:j < n.blocks.length:=by
   rcases Nat.lt_or_ge j n.blocks.length with h6 | h6
   ·exact h6
   ·rw [growB,List.getElem?_append_right h6] at hc
    exact absurd (List.mem_replicate.1 (List.mem_of_getElem? hc)).2 hc1
  rw [growB,List.getElem?_append_left hjl] at hc
  have:=hin.blk j hjl c hc
  rwa [growB,List.take_append_of_le_length (by omega)]
 ·intro c hc hc1
  exact how n (by rw [←hn];exact List.getElem_mem hi) c (mem_growB hc hc1) hc1
 ·rwa [allB_set_self hi (by rw [hn];exact real_growB)]
theorem nextB_allB {f g:DFS} {u:Int} (hq:f.quotas=g.quotas) (h:allB f.inodes=allB g.inodes):nextB f u=nextB g u:=by
 unfold nextB quotaAt
 rw [h,hq]
def cutD (D:List Str) (n:DInode) (B:List Int) (size:Nat):List Str:=
 if (size:Int) < n.size∧0 < size % 32∧B.getD ((blocksNeeded size).toNat - 1) 0 ≠ -1 then
  D.set (B.getD ((blocksNeeded size).toNat - 1) 0).toNat ((D.getD (B.getD ((blocksNeeded size).toNat - 1) 0).toNat []).take (size % 32)++List.replicate (32 - size % 32) 0)
 else D
def rB (n:DInode) (size:Nat):List Int:=growB n.blocks (blocksNeeded size).toNat
def rN (n:DInode) (size:Nat):DInode:={ n with size:=size,blocks:=(rB n size).take (blocksNeeded size).toNat }
def rD (D:List Str) (n:DInode) (size:Nat):List Str:=cutD (zeroR D (real ((rB n size).drop (blocksNeeded size).toNat))) n (rB n size) size
def resizeS (f:DFS) (i:Int) (size:Nat):DFS:=⟨f.tick,f.quotas,f.inodes.set i.toNat (rN (inodeAt f i) size),rD f.data (inodeAt f i) size⟩
def resizeF (f:DFS) (i size:Int):DFS × Int:=if size < 0 then (f,1) else if 256 < size then (f,9) else (resizeS f i size.toNat,0)
theorem zeroR_secs {bs:List Int}:∀ {D:List Str},(∀ s ∈ D,s.length=32)→∀ s ∈ zeroR D bs,s.length=32:=by
 induction bs with
 | nil=>intro D h;exact h
 | cons b bs ih=>
  intro D h
  refine ih (D:=D.set b.toNat zero32) (fun s hs => ?_)
  rcases List.mem_or_eq_of_mem_set hs with h1 | rfl
  ·exact h s h1
  ·rfl
theorem rB_held {n:DInode} {size:Nat} (h:blocksNeeded size≤n.blocks.length):rB n size=n.blocks:=growB_zero (by omega)
theorem needed_mono {a b:Int} (h:a≤b):blocksNeeded a≤blocksNeeded b:=by
 unfold blocksNeeded
 split<;>split<;>omega
theorem needed_pos {a:Int} (h:0 < a):0 < blocksNeeded a:=by
 unfold blocksNeeded
 split<;>omega
def mvD (D:List Str) (c b:Int):List Str:=(D.set c.toNat (D.getD b.toNat [])).set b.toNat zero32
def mvLoop (f:DFS) (i:Nat) (u:Int):Nat→Nat→DInode→List Str→DInode × List Str × Int
 | 0,_,n,D=>(n,D,0)
 | m + 1,k,n,D=>if n.blocks.getD k 0 = -1 then mvLoop f i u m (k + 1) n D
  else if (nextB (setI f i n) u).2=0 then mvLoop f i u m (k + 1) (wN n k (nextB (setI f i n) u).1) (mvD D (nextB (setI f i n) u).1 (n.blocks.getD k 0))
  else (n,D,(nextB (setI f i n) u).2)
def moveL (f:DFS) (i:Nat) (u:Int):DInode × List Str × Int:=mvLoop f i u (inodeAt f i).blocks.length 0 (inodeAt f i) f.data
def moveP (f:DFS) (i u:Int):DFS × Int:=
 if ¬ IsUser u then (f,1) else if u=(inodeAt f i).uid then (f,0)
 else (⟨f.tick,f.quotas,f.inodes.set i.toNat { (moveL f i.toNat u).1 with uid:=if (moveL f i.toNat u).2.2=0 then u else (moveL f i.toNat u).1.uid },(moveL f i.toNat u).2.1⟩,(moveL f i.toNat u).2.2)
structure MI (f:DFS) (i:Nat) (x:DInode) (u:Int) (k:Nat) (n:DInode) (D:List Str):Prop where
 w:WI f i x.blocks.length n D
 same:∀ j,k≤j→n.blocks[j]? = x.blocks[j]?
 rest:n={ x with blocks:=n.blocks }
 own:∀ b ∈ n.blocks.take k,b ≠ -1→ownerOf b=u
 data:∀ j,k≤j→∀ b,x.blocks[j]? = some b→b ≠ -1→D[b.toNat]? = f.data[b.toNat]?
theorem MI.skip {f:DFS} {i k:Nat} {x n:DInode} {u:Int} {D:List Str} (h:MI f i x u k n D) (hk:k < x.blocks.length) (hb:n.blocks.getD k 0 = -1):MI f i x u (k + 1) n D:=by
 have hl:=h.w.len
 refine ⟨h.w,fun j hj=>h.same j (by omega),h.rest,fun b hm hb1 => ?_,fun j hj=>h.data j (by omega)⟩
 have hkl:k < n.blocks.length:=by omega
 have hg:n.blocks.getD k 0=n.blocks[k]:=by simp [hkl]
 rw [List.take_succ_eq_append_getElem hkl,List.mem_append,List.mem_singleton] at hm
 rcases hm with h1 | h1
 ·exact h.own b h1 hb1
 ·rw [h1,←hg,hb] at hb1
  exact absurd rfl hb1
theorem blk_ne {x:DInode} (hx:InodeOK x) {j k:Nat} (h:j < k) {b:Int} (hj:x.blocks[j]? = some b) (hk:x.blocks[k]? = some b) (hb:b ≠ -1):False:=by
 have hkl:=(List.getElem?_eq_some_iff.1 hk).1
 rcases hx.blk k hkl b hk with h1 | ⟨-,h1⟩
 ·exact hb h1
 ·exact h1 (List.mem_of_getElem? (i:=j) (by rw [List.getElem?_take,if_pos h];exact hj))
theorem MI.step {f:DFS} {i k:Nat} {x n:DInode} {u b:Int} {c:Nat} {D:List Str} (h:MI f i x u k n D) (hx:InodeOK x) (hi:i < f.inodes.length) (hk:x.blocks[k]? = some b) (hb:b ≠ -1) (hc:c < 56) (ho:ownerOf c=u) (hf:(c:Int) ∉ allB (f.inodes.set i n)):MI f i x u (k + 1) (wN n k c) (mvD D c b):=by
 have hl:=h.w.len
 have hkx:=(List.getElem?_eq_some_iff.1 hk).1
 have hkl:k < n.blocks.length:=by omega
 have hnk:n.blocks[k]? = some b:=by rw [h.same k (Nat.le_refl _)];exact hk
 have hbm:b ∈ n.blocks:=List.mem_of_getElem? hnk
 have hbr:=h.w.blk b hbm hb
 refine ⟨⟨h.w.sm,h.w.nq,h.w.ni,h.w.hi,h.w.rng,fun d hd hd1 => ?_,by simpa [wN] using hl,h.w.le8,h.w.acl,h.w.uid,by simpa [mvD] using h.w.nd,fun s hs => ?_⟩,fun j hj => ?_,?_,fun d hd hd1 => ?_,fun j hj d hd hd1 => ?_⟩
 ·rcases List.mem_or_eq_of_mem_set hd with h1 | rfl
  ·exact h.w.blk d h1 hd1
  ·exact ⟨by omega,by omega⟩
 ·rcases List.mem_or_eq_of_mem_set hs with h1 | rfl
  ·rcases List.mem_or_eq_of_mem_set h1 with h2 | rfl
   ·exact h.w.secs s h2
   ·have hbD:b.toNat < D.length:=by rw [h.w.nd];omega
    rw [List.getD_eq_getElem?_getD,List.getElem?_eq_getElem hbD]
    exact h.w.secs _ (List.getElem_mem hbD)
  ·rfl
 ·simp only [wN]
  rw [List.getElem?_set_ne (by omega)]
  exact h.same j (by omega)
 ·have:=h.rest
  simp only [wN]
  conv=>lhs;rw [this]
 ·simp only [wN] at hd
  have hkl2:k < (n.blocks.set k c).length:=by simpa using hkl
  rw [List.take_succ_eq_append_getElem hkl2,List.mem_append,List.mem_singleton] at hd
  rcases hd with h1 | rfl
  ·rw [List.take_set_of_le (Nat.le_refl _)] at h1
   exact h.own d h1 hd1
  ·simpa using ho
 ·have hjl:=(List.getElem?_eq_some_iff.1 hd).1
  have hdm:d ∈ n.blocks:=List.mem_of_getElem? (i:=j) (by rw [h.same j (by omega)];exact hd)
  have hdr:=h.w.blk d hdm hd1
  have h1:d≠(c:Int):=by
   rintro rfl
   exact hf (by rw [allB_set hi];exact List.mem_append_right _ (List.mem_append_left _ (mem_real.2 ⟨hdm,hd1⟩)))
  have h2:d≠b:=by
   rintro rfl
   exact blk_ne hx (show k < j by omega) hk hd hb
  rw [mvD,List.getElem?_set_ne (by omega),List.getElem?_set_ne (by omega)]
  exact h.data j (by omega) d hd hd1
theorem MI.start {f:DFS} {i:Nat} {x:DInode} {u:Int} (hs:SmF f) (nq:f.quotas.length=4) (ni:f.inodes.length=20) (hi:i < 20) (hr:InR f.inodes) (hn:f.inodes[i]? = some x) (hin:InodeOK x) (nd:f.data.length=56) (hd:∀ s ∈ f.data,s.length=32):MI f i x u 0 x f.data:=by
 have h1:=hin.blocks
 have h2:=blocksNeeded_le hin.size.2
 exact ⟨⟨hs,nq,ni,hi,hr,hr x (List.mem_of_getElem? hn),rfl,by omega,⟨hin.acl.1,hin.dflt.1⟩,hin.uid,nd,hd⟩,fun _ _=>rfl,rfl,by simp,fun _ _ _ _ _=>rfl⟩
theorem zeroR_set {c:Nat} {v:Str}:∀ {bs:List Int} {D:List Str},(∀ b ∈ bs,b.toNat≠c)→zeroR (D.set c v) bs=(zeroR D bs).set c v
 | [],D,_=>rfl
 | b :: bs,D,h=>by
  show zeroR ((D.set c v).set b.toNat zero32) bs=(zeroR (D.set b.toNat zero32) bs).set c v
  rw [List.set_comm _ _ (fun e=>h b (List.mem_cons_self ..) e.symm),zeroR_set (fun d hd=>h d (List.mem_cons_of_mem _ hd))]
theorem zeroR_get {c:Nat}:∀ {bs:List Int} {D:List Str},(∀ b ∈ bs,b.toNat≠c)→(zeroR D bs)[c]? = D[c]?
 | [],D,_=>rfl
 | b :: bs,D,h=>by
  show (zeroR (D.set b.toNat zero32) bs)[c]? = D[c]?
  rw [zeroR_get (fun d hd=>h d (List.mem_cons_of_mem _ hd)),List.getElem?_set_ne (h b (List.mem_cons_self ..))]
def mvN (n:DInode) (u:Int) (k:Nat):DInode:={ n with uid:=u,blocks:=n.blocks.take k++List.replicate (n.blocks.length - k) (-1) }
theorem mvN_len {n:DInode} {u:Int} {k:Nat} (h:k≤n.blocks.length):(mvN n u k).blocks.length=n.blocks.length:=by simp [mvN];omega
theorem mvN_at {n:DInode} {u:Int} {k:Nat} (h:k < n.blocks.length):(mvN n u k).blocks[k]'(by rw [mvN_len (by omega)];exact h) = -1:=by
 simp only [mvN]
 rw [List.getElem_append_right (by simp;omega)]
 simp
theorem mvN_skip {n:DInode} {u:Int} {k:Nat} (h:k < n.blocks.length) (hb:n.blocks[k] = -1):mvN n u (k + 1)=mvN n u k:=by
 unfold mvN
 rw [List.take_succ_eq_append_getElem h,hb,List.append_assoc]
 congr 2
 rw [show n.blocks.length - k=(n.blocks.length - (k + 1)) + 1 by omega,List.replicate_succ]
 rfl
theorem mvN_step {n:DInode} {u c:Int} {k:Nat} (h:k < n.blocks.length):mvN (wN n k c) u (k + 1)=wN (mvN n u k) k c:=by
 have hl:(n.blocks.take k).length=k:=by rw [List.length_take];omega
 have h2:k < (n.blocks.set k c).length:=by simpa using h
 unfold mvN wN
 simp only [List.length_set]
 congr 1
 rw [List.take_succ_eq_append_getElem h2,List.take_set_of_le (Nat.le_refl _),List.getElem_set_self,List.set_append_right _ _ (by omega),hl,Nat.sub_self,show n.blocks.length - k=(n.blocks.length - (k + 1)) + 1 by omega,List.replicate_succ,List.set_cons_zero]
 simp
theorem mvN_end {n:DInode} {u:Int}:mvN n u n.blocks.length={ n with uid:=u }:=by
 unfold mvN
 simp
theorem real_rep {m:Nat}:real (List.replicate m (-1)) = []:=by simp [real]
theorem mvN_real {n:DInode} {u:Int} {k:Nat}:real (mvN n u k).blocks=real (n.blocks.take k):=by
 simp only [mvN]
 rw [real,List.filter_append,←real,←real,real_rep,List.append_nil]
theorem real_take_drop {l:List Int} {k:Nat}:real l=real (l.take k)++real (l.drop k):=by
 rw [real,real,real,←List.filter_append,List.take_append_drop]
theorem real_drop {l:List Int} {k:Nat} (h:k < l.length):real (l.drop k)=if l[k] = -1 then real (l.drop (k + 1)) else l[k] :: real (l.drop (k + 1)):=by
 rw [List.drop_eq_getElem_cons h,real,List.filter_cons]
 by_cases hb:l[k] = -1
 ·simp [hb,real]
 ·rw [if_pos (by simpa using hb),if_neg hb]
  rfl
theorem same_drop {l m:List Int} {k:Nat} (h:∀ j,k≤j→l[j]? = m[j]?):l.drop k=m.drop k:=by
 apply List.ext_getElem?
 intro j
 rw [List.getElem?_drop,List.getElem?_drop]
 exact h _ (by omega)
theorem MI.next {f:DFS} {i k:Nat} {x n:DInode} {u:Int} {D E:List Str} (h:MI f i x u k n D) (hi:i < f.inodes.length) (hu:IsUser u) (hx:OwnOK x) (hne:u≠x.uid):nextB ⟨f.tick,f.quotas,f.inodes.set i (mvN n u k),E⟩ u=nextB ⟨f.tick,f.quotas,f.inodes.set i n,D⟩ u:=by
 refine nextB_congr hu rfl fun c hc => ?_
 simp only
 rw [allB_set hi,allB_set hi,mvN_real,real_take_drop (l:=n.blocks) (k:=k),same_drop h.same]
 have hno:(c:Int) ∉ real (x.blocks.drop k):=fun hm=>by
  have hm2:=mem_real.1 hm
  exact hne (by rw [←hc];exact hx c (List.mem_of_mem_drop hm2.1) hm2.2)
 simp only [List.mem_append]
 constructor
 ·rintro (h1 | h1 | h1)
  ·exact .inl h1
  ·exact .inr (.inl (.inl h1))
  ·exact .inr (.inr h1)
 ·rintro (h1 | (h1 | h1) | h1)
  ·exact .inl h1
  ·exact .inr (.inl h1)
  ·exact absurd h1 hno
  ·exact .inr (.inr h1)
theorem mvD_zero {D:List Str} {x:DInode} {k c:Nat} {b:Int} (hx:InodeOK x) (hk:x.blocks[k]? = some b) (hb:b ≠ -1) (hb0:0≤b) (hcb:(c:Int)≠b) (hc:(c:Int) ∉ real (x.blocks.drop (k + 1))) (hr:∀ d ∈ x.blocks,d ≠ -1→0≤d):(zeroR D (real (x.blocks.drop k))).set c (D.getD b.toNat [])=zeroR (mvD D c b) (real (x.blocks.drop (k + 1))):=by
 have hkl:=(List.getElem?_eq_some_iff.1 hk).1
 have hkb:=(List.getElem?_eq_some_iff.1 hk).2
 have hcs:∀ d ∈ real (x.blocks.drop (k + 1)),d.toNat≠c:=by
  intro d hd e
  have hm:=mem_real.1 hd
  have:=hr d (List.mem_of_mem_drop hm.1) hm.2
  exact hc (by rw [show (c:Int)=d by omega];exact hd)
 rw [real_drop hkl,hkb,if_neg hb]
 show (zeroR (D.set b.toNat zero32) _).set c _=_
 rw [mvD,Int.toNat_natCast,List.set_comm _ _ (show c≠b.toNat by omega),zeroR_set hcs]
theorem mvN_start {ns:List DInode} {i:Nat} {x:DInode} {u:Int} (hi:i < ns.length) (hx:InodeOK x) (hu:IsUser u) (hon:(allB ns).Nodup):WV ns i (mvN x u 0):=by
 have hbs:(mvN x u 0).blocks=List.replicate x.blocks.length (-1):=by simp [mvN]
 have hall:∀ b ∈ (mvN x u 0).blocks,b = -1:=fun b hb=>by
  rw [hbs] at hb
  exact (List.mem_replicate.1 hb).2
 refine ⟨⟨hx.kind,hx.mode,hu,hx.gid,hx.links,hx.size,hx.tick,by rw [hbs,List.length_replicate];exact hx.blocks,fun j hj b hb => .inl (hall b (List.mem_of_getElem? hb)),hx.acl,hx.dflt,hx.file⟩,fun b hb hb1=>absurd (hall b hb) hb1,?_⟩
 rw [allB_set hi,mvN_real,List.take_zero]
 rw [allB_split hi] at hon
 have:(allB (ns.take i)++(real []++allB (ns.drop (i + 1)))).Sublist (allB (ns.take i)++(real ns[i].blocks++allB (ns.drop (i + 1)))):=by
  refine List.Sublist.append (List.Sublist.refl _) (List.Sublist.append ?_ (List.Sublist.refl _))
  exact List.nil_sublist _
 exact List.Sublist.nodup this hon
end Go.Fw
