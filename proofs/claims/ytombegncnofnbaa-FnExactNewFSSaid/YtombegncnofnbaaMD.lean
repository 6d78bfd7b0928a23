/- Plain law: what the draws make: file systems. -/
import Derived.Test.YtombegncnofnbaaMH
namespace Go.Fw
set_option linter.unusedVariables false
set_option linter.unusedSimpArgs false
def cut32 (s:Str):List Str:=cutN s 32 (nChunks s 32)
theorem cut32_ok {s:Str} (h:s.length≤256):(cut32 s).length≤8∧(∀ t ∈ cut32 s,0 < t.length∧t.length≤32)∧∀ t ∈ (cut32 s).dropLast,t.length=32:=by
 unfold cut32
 have hn:nChunks s 32=(s.length + 31) / 32:=rfl
 refine ⟨by rw [cutN_len,hn];omega,fun t ht => ?_,fun t ht => ?_⟩
 ·obtain ⟨i,hi,rfl⟩:=List.mem_iff_getElem.1 ht
  rw [cutN_get]
  rw [cutN_len,hn] at hi
  rw [chunk_len]
  omega
 ·rw [List.dropLast_eq_take,cutN_len] at ht
  obtain ⟨i,hi,rfl⟩:=List.mem_iff_getElem.1 ht
  rw [List.getElem_take,cutN_get]
  rw [List.length_take,cutN_len,hn] at hi
  rw [chunk_len]
  omega
structure Drawn (f:DFS):Prop where
 fs:IsFS f
 linked:∀ j:Nat,j < 20→(inodeAt f j).kind≠0→1≤(inodeAt f j).links
theorem Drawn.put {f g:DFS} {d i k:Nat} {n:DInode} {l:List Str} (h:PutIn f g d i k n l) (hd:d < 20) (hf:Drawn f):Drawn g:=by
 refine ⟨h.fs,fun j hj hk => ?_⟩
 by_cases h1:j=i
 ·subst h1
  rcases h.res with ⟨_,⟨b,s,e,_⟩,_⟩ | ⟨e,_⟩
  ·rw [e]
   exact Int.le_refl _
  ·rw [e] at hk
   exact absurd rfl hk
 ·by_cases h2:j=d
  ·subst h2
   rcases h.res with ⟨_,_,⟨b,s,e⟩⟩ | ⟨_,e⟩
   ·rw [e] at hk ⊢
    exact hf.linked j hj hk
   ·rw [e] at hk ⊢
    exact hf.linked j hj hk
  ·rw [h.other j (by simpa using h1) (by simpa using h2)] at hk ⊢
   exact hf.linked j hj hk
def freshN (kind mode uid gid:Int) (acl dflt:List DAcl):DInode:=⟨kind,mode,uid,gid,0,0,0,[],acl,dflt⟩
theorem freshN_ok {kind mode uid gid:Int} {acl dflt:List DAcl} (hk:kind=1∨kind=2) (hm:IsMode mode) (hu:IsUser uid) (hg:IsUser gid) (ha:IsAcl acl) (hd:IsAcl dflt) (hf:kind=2∨dflt = []∧iAnd mode 512=0):InodeOK (freshN kind mode uid gid acl dflt):=
 ⟨hk,hm,hu,hg,by simp [freshN],by simp [freshN],by simp [freshN],by simp [freshN,blocksNeeded],by simp [freshN],ha,hd,hf⟩
def recD (i:Nat) (name:Str):Str:=padTo (putN ((i:Int) + 1) 2++putN name.length 1++name) 16
theorem recD_len {i:Nat} {b:UInt8}:(recD i [b]).length=16:=by
 have h1:=putN_len ((i:Int) + 1) 2
 have h2:=putN_len (([b]:Str).length:Int) 1
 rw [recD,padTo_len,List.length_append,List.length_append]
 simp only [List.length_cons,List.length_nil] at *
 omega
theorem user4 {c:DCur}:IsUser (belowC c 4).1:=by
 have:=belowC_val c (n:=4) (by decide)
 exact ⟨this.1,by omega⟩
def quoStep (p:List DQuota × DCur) (_:Nat):List DQuota × DCur:=
 (p.1 ++ [⟨(pickC (0:Int) p.2 [5,5,5,4,3,2]).1,(pickC (0:Int) (pickC (0:Int) p.2 [5,5,5,4,3,2]).2 [14,14,10,5,3]).1⟩],(pickC (0:Int) (pickC (0:Int) p.2 [5,5,5,4,3,2]).2 [14,14,10,5,3]).2)
def quoL (c:DCur) (n:Nat):List DQuota × DCur:=(List.range n).foldl quoStep ([],c)
theorem quoL_succ {c:DCur} {n:Nat}:quoL c (n + 1)=quoStep (quoL c n) n:=by
 unfold quoL
 rw [List.range_succ,List.foldl_append]
 rfl
theorem quoL_ok (c:DCur):∀ n,(quoL c n).1.length=n∧∀ q ∈ (quoL c n).1,QuotaOK q
 | 0=>⟨rfl,fun q hq=>by simp [quoL] at hq⟩
 | n + 1=>by
  obtain ⟨h1,h2⟩:=quoL_ok c n
  rw [quoL_succ]
  refine ⟨by simp [quoStep,h1],fun q hq => ?_⟩
  rcases List.mem_append.1 hq with h | h
  ·exact h2 q h
  ·rw [List.mem_singleton] at h
   have a1:(pickC (0:Int) (quoL c n).2 [5,5,5,4,3,2]).1 ∈ ([5,5,5,4,3,2]:List Int):=pickC_mem (by decide)
   have a2:(pickC (0:Int) (pickC (0:Int) (quoL c n).2 [5,5,5,4,3,2]).2 [14,14,10,5,3]).1 ∈ ([14,14,10,5,3]:List Int):=pickC_mem (by decide)
   rw [h]
   unfold QuotaOK
   simp only [List.mem_cons,List.mem_nil_iff,or_false] at a1 a2
   simp only
   omega
def drawQ (c:DCur):List DQuota × DCur:=((quoL c 4).1.set 0 ⟨5,14⟩,(quoL c 4).2)
theorem drawQ_ok (c:DCur):(drawQ c).1.length=4∧∀ q ∈ (drawQ c).1,QuotaOK q:=by
 obtain ⟨h1,h2⟩:=quoL_ok c 4
 refine ⟨by simp [drawQ,h1],fun q hq => ?_⟩
 rcases List.mem_or_eq_of_mem_set hq with h | rfl
 ·exact h2 q h
 ·unfold QuotaOK;simp
def byteStep (p:Str × DCur) (_:Nat):Str × DCur:=
 (p.1 ++ [UInt8.ofNat (pickC (0:Int) (byteC p.2).2 [0,1,65,97,255,(byteC p.2).1]).1.toNat],(pickC (0:Int) (byteC p.2).2 [0,1,65,97,255,(byteC p.2).1]).2)
def bytesL (c:DCur) (n:Nat):Str × DCur:=(List.range n).foldl byteStep ([],c)
theorem bytesL_succ {c:DCur} {n:Nat}:bytesL c (n + 1)=byteStep (bytesL c n) n:=by
 unfold bytesL
 rw [List.range_succ,List.foldl_append]
 rfl
theorem bytesL_len (c:DCur):∀ n,(bytesL c n).1.length=n
 | 0=>rfl
 | n + 1=>by rw [bytesL_succ];simp [byteStep,bytesL_len c n]
def drawS (c:DCur) (n:Int):Str × DCur:=bytesL (belowC c (n + 1)).2 (belowC c (n + 1)).1.toNat
theorem drawS_len {c:DCur} {n:Int} (h:0≤n):((drawS c n).1.length:Int)≤n:=by
 unfold drawS
 rw [bytesL_len]
 have:=belowC_val c (n:=n + 1) (by omega)
 omega
def rootN (mode:Int):DInode:=⟨2,mode,0,0,1,0,0,[],[],[]⟩
def rootF (t:Int) (q:List DQuota) (mode:Int):DFS:=⟨t,q,rootN mode :: List.replicate 19 zeroInode,List.replicate 56 zero32⟩
theorem rootF_at {t:Int} {q:List DQuota} {mode:Int} (j:Nat):inodeAt (rootF t q mode) j=if j=0 then rootN mode else zeroInode:=by
 unfold inodeAt rootF
 rw [Int.toNat_natCast,List.getD_eq_getElem?_getD]
 cases j with
 | zero=>rfl
 | succ j=>
  rw [List.getElem?_cons_succ,if_neg (by omega),List.getElem?_replicate]
  split<;>rfl
theorem rootF_ok {t:Int} {q:List DQuota} {mode:Int} (ht:0≤t∧t≤1000000000) (hq:q.length=4) (hq2:∀ x ∈ q,QuotaOK x) (hm:IsMode mode):Drawn (rootF t q mode):=by
 have hroot:InodeOK (rootN mode):=⟨.inr rfl,hm,(show IsUser 0 from ⟨by decide,by decide⟩),(show IsUser 0 from ⟨by decide,by decide⟩),by simp [rootN],by simp [rootN],by simp [rootN],by simp [rootN,blocksNeeded],by simp [rootN],tr_iff.1 (isAcl_nil (l := []) rfl),tr_iff.1 (isAcl_nil (l := []) rfl), .inl rfl⟩
 have hmem:∀ n ∈ (rootF t q mode).inodes,n=rootN mode∨n=zeroInode:=fun n hn=>by
  rcases List.mem_cons.1 hn with h | h
  ·exact .inl h
  ·exact .inr (List.eq_of_mem_replicate h)
 have hbl:∀ n ∈ (rootF t q mode).inodes,n.blocks = []:=fun n hn=>by
  rcases hmem n hn with rfl | rfl<;>rfl
 have hall:allB (rootF t q mode).inodes = []:=by
  unfold allB
  rw [List.flatMap_eq_nil_iff]
  intro n hn
  rw [hbl n hn]
  rfl
 refine ⟨⟨ht,hq,by simp [rootF],by simp [rootF],hq2,fun s hs => ?_,fun n hn => ?_,fun n hn b hb => ?_,by rw [hall];exact List.nodup_nil,fun n hn b hb => ?_,fun k s hk _ => ?_,fun n hn => ?_⟩,fun j hj hk => ?_⟩
 ·rw [List.eq_of_mem_replicate hs];rfl
 ·rcases hmem n hn with rfl | rfl
  ·exact .inr hroot
  ·exact .inl rfl
 ·rw [hbl n hn] at hb
  cases hb
 ·rw [hbl n hn] at hb
  cases hb
 ·have h1:=List.mem_of_getElem? hk
  rw [List.eq_of_mem_replicate h1]
  decide
 ·have h1:some (rootN mode)=some n:=hn
  cases h1
  rfl
 ·rw [rootF_at] at hk ⊢
  split at hk
  ·rename_i h
   rw [if_pos h]
   exact Int.le_refl _
  ·exact absurd rfl hk
attribute [irreducible] quoL
end Go.Fw
