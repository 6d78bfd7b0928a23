/- Plain law: a block put behind the blocks of an object keeps a file system in order. -/
import Derived.Test.YtombegncnofnbaaMC
import Derived.Test.YtombegncnofnbaaM30
namespace Go.Fw
set_option linter.unusedVariables false
set_option linter.unusedSimpArgs false
def blkN (n:DInode) (s:Str) (b:Int):DInode:={ n with blocks:=n.blocks ++ [b],size:=n.size + s.length }
def blkF (f:DFS) (i:Nat) (n:DInode) (s:Str) (b:Int):DFS:=⟨f.tick,f.quotas,f.inodes.set i (blkN n s b),f.data.set b.toNat (padTo s 32)⟩
structure BlkPre (f:DFS) (i:Nat) (n:DInode):Prop where
 fs:IsFS f
 lt:i < 20
 ok:InodeOK n
 full:n.size=32 * n.blocks.length
 few:n.blocks.length < 8
 at_:n=inodeAt f i∨(inodeAt f i).kind=0∧n.blocks = []
theorem real_snoc {l:List Int} {b:Int} (h:b ≠ -1):real (l ++ [b])=real l ++ [b]:=by simp [real,h]
theorem padTo_drop {s:Str} {k:Nat}:zeroStr ((padTo s k).drop s.length)=true:=by
 rw [padTo,List.drop_left]
 simp [zeroStr]
theorem blkN_ok {n:DInode} {s:Str} {k:Nat} (hn:InodeOK n) (hfull:n.size=32 * n.blocks.length) (h8:n.blocks.length < 8) (hs:0 < s.length∧s.length≤32) (hk:k < 56) (hnot:(k:Int) ∉ n.blocks):InodeOK (blkN n s k):=by
 refine ⟨hn.kind,hn.mode,hn.uid,hn.gid,hn.links,?_,hn.tick,?_,fun i hi b hb => ?_,hn.acl,hn.dflt,hn.file⟩
 ·have:=hn.size
  simp only [blkN]
  omega
 ·simp only [blkN,List.length_append,List.length_cons,List.length_nil]
  unfold blocksNeeded
  rw [if_neg (by omega)]
  omega
 ·simp only [blkN,List.length_append,List.length_cons,List.length_nil] at hi hb ⊢
  by_cases h:i < n.blocks.length
  ·rw [List.getElem?_append_left h] at hb
   rw [List.take_append_of_le_length (by omega)]
   exact hn.blk i h b hb
  ·have hi2:i=n.blocks.length:=by omega
   subst hi2
   rw [List.getElem?_append_right (Nat.le_refl _),Nat.sub_self] at hb
   simp only [List.getElem?_cons_zero,Option.some.injEq] at hb
   subst hb
   right
   refine ⟨by omega,?_⟩
   rw [List.take_left]
   exact hnot
theorem IsFS.blk {f:DFS} {i:Nat} {n:DInode} {s:Str} {b:Nat} (hp:BlkPre f i n) (hs:0 < s.length∧s.length≤32) (hb:(nextB f n.uid).1=b) (h0:(nextB f n.uid).2=0) :
  IsFS (blkF f i n s b)∧InodeOK (blkN n s b)∧b < 56:=by
 obtain ⟨hf,hi,hn,hfull,h8,hat⟩:=hp
 obtain ⟨k,e,hk,ho,hnot⟩:=nextB_ok hn.uid h0
 have hbk:b=k:=by omega
 subst hbk
 have hil:i < f.inodes.length:=by rw [hf.ni];exact hi
 have he:=inodeAt_nat hil
 have hb1:(b:Int) ≠ -1:=by omega
 -- what stood there had the same blocks
 have hbl:f.inodes[i].blocks=n.blocks:=by
  rcases hat with h | ⟨h1,h2⟩
  ·rw [h,he]
  ·rw [he] at h1
   rw [(isInode_free h1).1 (hf.inode _ (List.getElem_mem hil)),h2]
   rfl
 have hreal:real (blkN n s b).blocks=real f.inodes[i].blocks ++ [(b:Int)]:=by
  rw [hbl]
  exact real_snoc hb1
 have hnb:(b:Int) ∉ n.blocks:=fun h=>hnot (by
  rw [allB_split hil,hbl]
  exact List.mem_append_right _ (List.mem_append_left _ (mem_real.2 ⟨h,hb1⟩)))
 have hok:=blkN_ok hn hfull h8 hs hk hnb
 refine ⟨?_,hok,hk⟩
 have hown:OwnOK n:=by
  rcases hat with h | ⟨_,h2⟩
  ·rw [h,he]
   exact hf.own _ (List.getElem_mem hil)
  ·intro c hc
   rw [h2] at hc
   cases hc
 refine IsFS.put hf hi (.inr hok) (fun c hc h1 => ?_) ?_ (by simpa using hf.nd) (fun t ht => ?_) (fun j h1 h2 => ?_) (fun j t h1 h2 => ?_) (fun c hc h1 => ?_) (fun h => ?_)
 ·rcases List.mem_append.1 hc with h2 | h2
  ·exact hown c h2 h1
  ·rw [List.mem_singleton] at h2
   rw [h2]
   exact ho
 ·rw [allB_set hil,hreal]
  have h1:=hf.once
  rw [allB_split hil] at h1 hnot
  have h2:(allB (f.inodes.take i)++(real f.inodes[i].blocks ++ [(b:Int)]++allB (f.inodes.drop (i + 1)))).Perm ((b:Int) :: (allB (f.inodes.take i)++(real f.inodes[i].blocks++allB (f.inodes.drop (i + 1))))):=by
   have h3:=List.perm_middle (l₁:=allB (f.inodes.take i)++real f.inodes[i].blocks) (a:=(b:Int)) (l₂:=allB (f.inodes.drop (i + 1)))
   simpa only [List.append_assoc,List.singleton_append,List.cons_append,List.nil_append] using h3
  exact h2.nodup_iff.2 (List.nodup_cons.2 ⟨hnot,h1⟩)
 ·rcases List.mem_or_eq_of_mem_set ht with h | rfl
  ·exact hf.secs t h
  ·rw [padTo_len]
   omega
 ·have hne:b≠j:=by
   rintro rfl
   exact h1 (by rw [hreal];exact List.mem_append_right _ (List.mem_singleton.2 rfl))
  rw [Int.toNat_natCast,List.getElem?_set_ne hne]
 ·exfalso
  rw [he] at h1
  exact h2 (by rw [hreal];exact List.mem_append_left _ h1)
 ·simp only [blkN,List.getLast?_append,List.getLast?_singleton,Option.some_or,Option.some.injEq] at hc
  subst hc
  have hbd:b < f.data.length:=by rw [hf.nd];exact hk
  rw [Int.toNat_natCast,List.getD_eq_getElem?_getD,List.getElem?_set_self hbd,Option.getD_some]
  have:((blkN n s b).size - 32 * (((blkN n s b).blocks.length:Int) - 1)).toNat=s.length:=by
   simp only [blkN,List.length_append,List.length_cons,List.length_nil]
   omega
  rw [this]
  exact padTo_drop
 ·subst h
  have hr:=hf.root _ (List.getElem?_eq_getElem hil)
  rcases hat with h | ⟨h1,_⟩
  ·show n.kind=2
   rw [h,he]
   exact hr
  ·rw [he,hr] at h1
   cases h1
def recF (f:DFS) (i:Nat) (b:Nat) (r:Str):DFS:=⟨f.tick,f.quotas,f.inodes.set i { inodeAt f i with size:=32 },f.data.set b ((f.data.getD b []).take 16++r)⟩
theorem IsFS.record {f:DFS} {i b:Nat} {r:Str} (hf:IsFS f) (hi:i < 20) (hb:(inodeAt f i).blocks = [(b:Int)]) (hz:(inodeAt f i).size=16) (hr:r.length=16):IsFS (recF f i b r):=by
 have hil:i < f.inodes.length:=by rw [hf.ni];exact hi
 have he:=inodeAt_nat hil
 have hin:=hf.inode _ (List.getElem_mem hil)
 rw [←he] at hin
 have hok:InodeOK (inodeAt f i):=by
  rcases hin with h | h
  ·rw [h] at hb
   cases hb
  ·exact h
 have hblk:=(hf.blks (List.getElem_mem hil)).2.2 b (by rw [←he,hb];exact List.mem_singleton.2 rfl) (by omega)
 have hbd:b < f.data.length:=by rw [hf.nd];omega
 have hsec:=hf.secs _ (List.getElem_mem hbd)
 have hgd:f.data.getD b []=f.data[b]:=by simp [hbd]
 have hreal:real ({ inodeAt f i with size:=32 }:DInode).blocks=real f.inodes[i].blocks:=by rw [←he]
 unfold recF
 refine IsFS.put hf hi (.inr ⟨hok.kind,hok.mode,hok.uid,hok.gid,hok.links,by simp,hok.tick,by simp [hb,blocksNeeded],hok.blk,hok.acl,hok.dflt,hok.file⟩) (fun c hc h1 => ?_) ?_ (by simpa using hf.nd) (fun t ht => ?_) (fun j h1 h2 => ?_) (fun j t h1 h2 => ?_) (fun c hc h1 => ?_) (fun h => ?_)
 ·have h2:=hf.own _ (List.getElem_mem hil)
  rw [←he] at h2
  exact h2 c hc h1
 ·rw [allB_set_self hil hreal]
  exact hf.once
 ·rcases List.mem_or_eq_of_mem_set ht with h | rfl
  ·exact hf.secs t h
  ·rw [hgd,List.length_append,List.length_take,hsec,hr]
   rfl
 ·have hne:b≠j:=by
   rintro rfl
   exact h1 (by rw [hreal,←he,hb];exact mem_real.2 ⟨List.mem_singleton.2 rfl,by omega⟩)
  rw [List.getElem?_set_ne hne]
 ·exact absurd h1 h2
 ·rw [hb] at hc
  simp only [List.getLast?_singleton,Option.some.injEq] at hc
  subst hc
  rw [Int.toNat_natCast,List.getD_eq_getElem?_getD,List.getElem?_set_self hbd,Option.getD_some,hb]
  have:(((f.data.getD b []).take 16++r)).length=32:=by
   rw [hgd,List.length_append,List.length_take,hsec,hr]
   rfl
  rw [List.drop_eq_nil_of_le (by rw [this];simp)]
  rfl
 ·subst h
  have h2:=hf.root _ (List.getElem?_eq_getElem hil)
  rw [←he] at h2
  exact h2
end Go.Fw
