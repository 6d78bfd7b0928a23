/- Plain law: bytes of a content, one by one. -/
import Derived.Test.YtfkkfhafijgdaaaMV
namespace Go.Fw
set_option linter.unusedVariables false
set_option linter.unusedSimpArgs false
theorem blkT_len {D:List Str} {b:Int} (hl:D.length=56) (hs:∀ s ∈ D,s.length=32) (hb:b ≠ -1→0≤b∧b < 56):(blkT D b).length=32:=by
 unfold blkT
 split
 ·rfl
 ·rename_i h
  have h1:=hb h
  have h2:b.toNat < D.length:=by omega
  rw [List.getD_eq_getElem?_getD,List.getElem?_eq_getElem h2,Option.getD_some]
  exact hs _ (List.getElem_mem h2)
theorem textB_get {D:List Str}:∀ {bs:List Int},Blks D bs→∀ p,p < 32 * bs.length→(textB D bs)[p]? = (blkT D (bs.getD (p / 32) 0))[p % 32]?
 | [],_,p,h=>by simp at h
 | b :: bs,hb,p,h=>by
  have hl:=blkT_len (b:=b) hb.1 hb.2.1 (hb.2.2 b (List.mem_cons_self ..))
  have e:textB D (b :: bs)=blkT D b++textB D bs:=rfl
  rw [e]
  simp only [List.length_cons] at h
  by_cases hp:p < 32
  ·rw [List.getElem?_append_left (by omega),show p / 32=0 by omega,show p % 32=p by omega]
   rfl
  ·rw [List.getElem?_append_right (by omega),hl,textB_get ⟨hb.1,hb.2.1,fun c hc=>hb.2.2 c (List.mem_cons_of_mem _ hc)⟩ (p - 32) (by omega)]
   rw [show p / 32=(p - 32) / 32 + 1 by omega,show p % 32=(p - 32) % 32 by omega]
   rfl
theorem zeroStr_get {s:Str} (h:zeroStr s=true) {k:Nat} {b:UInt8} (hb:s[k]? = some b):b=0:=by
 have h1:=List.all_eq_true.1 h b (List.mem_of_getElem? hb)
 simp only [decide_eq_true_eq] at h1
 exact UInt8.toNat_inj.1 h1
theorem resize_get {D:List Str} {n:DInode} {Z p:Nat} (hn:InodeOK n) (hb:Blks D n.blocks) (ht:TailOK D n) (hnd:(real n.blocks).Nodup) (hp:p < Z) :
  (blkT (rD D n Z) ((rN n Z).blocks.getD (p / 32) 0))[p % 32]? = some (if (p:Int) < n.size then (textB D n.blocks).getD p 0 else 0):=by
 have hbl:=hn.blocks
 have hsz:=hn.size
 have hN:(blocksNeeded Z).toNat=(Z - 1) / 32 + 1:=by unfold blocksNeeded;rw [if_neg (by omega)];omega
 have hlen:(n.blocks.length:Int)=if n.size≤0 then 0 else (n.size - 1) / 32 + 1:=hbl
 have hjN:p / 32 < (blocksNeeded Z).toNat:=by rw [hN];omega
 have hrl:(rB n Z).length=max n.blocks.length (blocksNeeded Z).toNat:=growB_len
 have hblk:(rN n Z).blocks.getD (p / 32) 0=(rB n Z).getD (p / 32) 0:=by
  unfold rN
  simp only
  rw [List.getD_eq_getElem?_getD,List.getD_eq_getElem?_getD,List.getElem?_take,if_pos hjN]
 rw [hblk]
 have hz32:∀ k:Nat,k < 32→zero32[k]? = some 0:=fun k hk=>by unfold zero32;rw [List.getElem?_replicate,if_pos hk]
 by_cases hj:p / 32 < n.blocks.length
 ·have hB:(rB n Z).getD (p / 32) 0=n.blocks[p / 32]:=by
   rw [List.getD_eq_getElem?_getD,rB,growB,List.getElem?_append_left hj,List.getElem?_eq_getElem hj,Option.getD_some]
  have hg:n.blocks.getD (p / 32) 0=n.blocks[p / 32]:=by simp [hj]
  have hold:=textB_get hb p (by omega)
  rw [hg] at hold
  rw [hB]
  have hmem:=List.getElem_mem hj
  have hjs:n.blocks[p / 32]? = some n.blocks[p / 32]:=List.getElem?_eq_getElem hj
  generalize hbb:n.blocks[p / 32]=b at *
  by_cases hb1:b = -1
  ·subst hb1
   have e:∀ E:List Str,blkT E (-1)=zero32:=fun E=>by unfold blkT;rw [if_pos rfl]
   rw [e] at hold ⊢
   rw [hz32 _ (by omega)] at hold ⊢
   rw [List.getD_eq_getElem?_getD,hold,Option.getD_some]
   split<;>rfl
  ·have hr:=hb.2.2 b hmem hb1
   have hbD:b.toNat < D.length:=by rw [hb.1];omega
   -- the block is not among those that are dropped
   have hnot:b ∉ real ((rB n Z).drop (blocksNeeded Z).toNat):=by
    have h1:(real (rB n Z)).Nodup:=by rw [show real (rB n Z)=real n.blocks from real_growB];exact hnd
    rw [real_take_drop (k:=(blocksNeeded Z).toNat)] at h1
    have h2:b ∈ real ((rB n Z).take (blocksNeeded Z).toNat):=by
     refine mem_real.2 ⟨?_,hb1⟩
     refine List.mem_of_getElem? (i:=p / 32) ?_
     rw [List.getElem?_take,if_pos hjN,rB,growB,List.getElem?_append_left hj]
     exact hjs
    exact fun h3=>(List.nodup_append.1 h1).2.2 b h2 b h3 rfl
   have hz:(zeroR D (real ((rB n Z).drop (blocksNeeded Z).toNat)))[b.toNat]? = D[b.toNat]?:=zeroR_get fun c hc e=>by
    have h4:=mem_real.1 hc
    have h5:0≤c:=(hb.2.2 c (mem_growB (List.mem_of_mem_drop h4.1) h4.2) h4.2).1
    have h6:c=b:=by omega
    exact hnot (h6 ▸ hc)
   have hlD:=hb.2.1 _ (List.getElem_mem hbD)
   have hbyte:(blkT (rD D n Z) b)[p % 32]? = (blkT D b)[p % 32]?:=by
    unfold blkT
    rw [if_neg hb1,if_neg hb1]
    unfold rD cutD
    split
    ·rename_i hc
     obtain ⟨c1,c2,c3⟩:=hc
     generalize hE:zeroR D (real ((rB n Z).drop (blocksNeeded Z).toNat))=E at *
     by_cases hcb:((rB n Z).getD ((blocksNeeded Z).toNat - 1) 0).toNat=b.toNat
     ·rw [hcb]
      have hEl:b.toNat < E.length:=by rw [←hE,zeroR_len];exact hbD
      rw [List.getD_eq_getElem?_getD,List.getElem?_set_self hEl,Option.getD_some,List.getD_eq_getElem?_getD,hz,←List.getD_eq_getElem?_getD]
      have hk:p % 32 < Z % 32:=by
       have hmono:=needed_mono (a:=Z) (b:=n.size) (by omega)
       have hNl:(blocksNeeded Z).toNat≤n.blocks.length:=by omega
       have hidx:p / 32=(blocksNeeded Z).toNat - 1:=by
        rcases Nat.lt_trichotomy (p / 32) ((blocksNeeded Z).toNat - 1) with h | h | h
        ·exfalso
         have hl2:(blocksNeeded Z).toNat - 1 < n.blocks.length:=by omega
         have e2:(rB n Z).getD ((blocksNeeded Z).toNat - 1) 0=n.blocks[(blocksNeeded Z).toNat - 1]:=by
          rw [List.getD_eq_getElem?_getD,rB,growB,List.getElem?_append_left hl2,List.getElem?_eq_getElem hl2,Option.getD_some]
         rw [e2] at hcb c3
         have h7:=(hb.2.2 _ (List.getElem_mem hl2) c3).1
         have h8:n.blocks[(blocksNeeded Z).toNat - 1]=b:=by omega
         exact blk_ne hn h hjs (by rw [List.getElem?_eq_getElem hl2,h8]) hb1
        ·exact h
        ·omega
       omega
      rw [List.getElem?_append_left (by rw [List.length_take,List.getD_eq_getElem?_getD,List.getElem?_eq_getElem hbD,Option.getD_some,hlD];omega),List.getElem?_take,if_pos hk]
     ·rw [List.getD_eq_getElem?_getD,List.getElem?_set_ne hcb,hz,←List.getD_eq_getElem?_getD]
    ·rw [List.getD_eq_getElem?_getD,hz,←List.getD_eq_getElem?_getD]
   have hbl32:=blkT_len (b:=b) hb.1 hb.2.1 fun _=>hr
   have hs:(blkT D b)[p % 32]? = some ((blkT D b)[p % 32]'(by omega)):=List.getElem?_eq_getElem _
   rw [hbyte,hs]
   rw [hs] at hold
   rw [List.getD_eq_getElem?_getD,hold,Option.getD_some]
   split
   ·rfl
   ·rename_i hps
    congr 1
    split at hlen
    ·omega
    ·have hlast:p / 32=n.blocks.length - 1:=by omega
     have h3:=ht b (by rw [List.getLast?_eq_getElem?,←hlast];exact hjs) hb1
     have e3:blkT D b=D.getD b.toNat []:=by unfold blkT;rw [if_neg hb1]
     rw [←e3] at h3
     refine zeroStr_get h3 (k:=p % 32 - (n.size - 32 * ((n.blocks.length:Int) - 1)).toNat) ?_
     rw [List.getElem?_drop,show (n.size - 32 * ((n.blocks.length:Int) - 1)).toNat + (p % 32 - (n.size - 32 * ((n.blocks.length:Int) - 1)).toNat)=p % 32 by omega]
     exact hs
 ·have hB:(rB n Z).getD (p / 32) 0 = -1:=by
   rw [List.getD_eq_getElem?_getD,rB,growB,List.getElem?_append_right (by omega),List.getElem?_replicate,if_pos (by omega),Option.getD_some]
  rw [hB]
  have e:blkT (rD D n Z) (-1)=zero32:=by unfold blkT;rw [if_pos rfl]
  rw [e,hz32 _ (by omega),if_neg]
  split at hlen<;>omega
theorem resize_text {f:DFS} {i:Int} {Z:Nat} (hf:IsFS f) (hi:hasI f i=true) (hZ:Z≤256) :
  contentN (resizeS f i Z).data (inodeAt (resizeS f i Z) i)=padTo ((contentN f.data (inodeAt f i)).take Z) Z:=by
 have hl:=hasI_lt hi
 have hok:=hasI_ok hf hi
 obtain ⟨k,rfl⟩:=Int.eq_ofNat_of_zero_le hl.1
 have hk:k < f.inodes.length:=by rw [hf.ni];omega
 have he:=inodeAt_nat hk
 have hmem:=List.getElem_mem hk
 have hbk:=hf.blks hmem
 have hsz:=contentN_size hf hmem
 have hcl:=contentN_len hf hmem
 have hg:=IsFS.resize hf hi hZ
 have e:resizeS f (k:Int) Z=⟨f.tick,f.quotas,f.inodes.set k (rN (inodeAt f k) Z),rD f.data (inodeAt f k) Z⟩:=rfl
 have hnd:(real f.inodes[k].blocks).Nodup:=by
  have h1:=hf.once
  rw [allB_split hk] at h1
  exact (List.nodup_append.1 (List.nodup_append.1 h1).2.1).1
 have hk2:k < (resizeS f (k:Int) Z).inodes.length:=by rw [hg.ni];omega
 have he2:=inodeAt_nat hk2
 have hmem2:=List.getElem_mem hk2
 have hbk2:=hg.blks hmem2
 have hcl2:=contentN_len hg hmem2
 have hsz2:=contentN_size hg hmem2
 have hin:inodeAt (resizeS f (k:Int) Z) k=rN (inodeAt f k) Z:=by rw [e,inodeAt_set hk,if_pos (by simp)]
 rw [←he2,hin] at hbk2 hcl2 hsz2
 rw [hin]
 rw [he] at hok hbk2 hcl2 hsz2 ⊢
 have hrz:(rN f.inodes[k] Z).size=Z:=rfl
 have hd:(resizeS f (k:Int) Z).data=rD f.data f.inodes[k] Z:=by rw [e];simp only;rw [he]
 rw [hd] at hbk2 hcl2 ⊢
 have htl:=textB_len hbk
 have htl2:=textB_len hbk2
 apply List.ext_getElem?
 intro p
 by_cases hp:p < Z
 ·have h1:=resize_get hok hbk (hf.tail _ hmem) hnd hp
  have h2:=textB_get hbk2 p (by omega)
  rw [h1] at h2
  have e1:(contentN (rD f.data f.inodes[k] Z) (rN f.inodes[k] Z))[p]? = (textB (rD f.data f.inodes[k] Z) (rN f.inodes[k] Z).blocks)[p]?:=by
   unfold contentN
   rw [List.getElem?_take,if_pos (by rw [hrz];omega)]
  rw [e1,h2,padTo]
  by_cases hps:(p:Int) < f.inodes[k].size
  ·rw [if_pos hps,List.getElem?_append_left (by rw [List.length_take];omega),List.getElem?_take,if_pos hp]
   unfold contentN
   rw [List.getElem?_take,if_pos (by omega),List.getD_eq_getElem?_getD,List.getElem?_eq_getElem (by omega),Option.getD_some]
  ·rw [if_neg hps,List.getElem?_append_right (by rw [List.length_take];omega),List.getElem?_replicate,if_pos (by rw [List.length_take];omega)]
 ·rw [List.getElem?_eq_none (by omega),List.getElem?_eq_none (by rw [padTo_len,List.length_take];omega)]
theorem resize_has {f:DFS} {i:Int} {Z:Nat} (hf:IsFS f) (hi:hasI f i=true):hasI (resizeS f i Z) i=true:=by
 have hl:=hasI_lt hi
 obtain ⟨k,rfl⟩:=Int.eq_ofNat_of_zero_le hl.1
 have hk:k < f.inodes.length:=by rw [hf.ni];omega
 have e:resizeS f (k:Int) Z=⟨f.tick,f.quotas,f.inodes.set k (rN (inodeAt f k) Z),rD f.data (inodeAt f k) Z⟩:=rfl
 have hin:inodeAt (resizeS f (k:Int) Z) k=rN (inodeAt f k) Z:=by rw [e,inodeAt_set hk,if_pos (by simp)]
 unfold hasI at hi ⊢
 rw [hin]
 exact hi
theorem read_all {f:DFS} {i n:Int} (hf:IsFS f) (hi:hasI f i=true) (hn:0≤n):readB f i 0 n=(contentN f.data (inodeAt f i)).take n.toNat:=by
 unfold readB
 rw [if_pos (by simp [hf,hi,hn,tr_iff])]
 rfl
theorem padTo_take {s:Str} {n m:Nat} (h:s.length≤n) (hm:n≤m):(padTo s n).take m=padTo s n:=List.take_of_length_le (by rw [padTo_len];omega)
theorem padTo_two {s:Str} {n m:Nat} (hm:n≤m) (h:s.length≤n):padTo (padTo s n) m=padTo s m:=by
 have h1:(padTo s n).length=n:=by rw [padTo_len];omega
 unfold padTo at h1 ⊢
 rw [h1,List.append_assoc,List.replicate_append_replicate]
 congr 2
 omega
theorem resize_read {f:DFS} {i:Int} {Z:Nat} (hf:IsFS f) (hi:hasI f i=true) (hZ:Z≤256):readB (resizeS f i Z) i 0 1000=padTo (readB f i 0 Z) Z:=by
 have hg:=IsFS.resize hf hi hZ
 rw [read_all hg (resize_has hf hi) (by decide),read_all hf hi (by omega),resize_text hf hi hZ,Int.toNat_natCast]
 exact padTo_take (by rw [List.length_take];omega) (by show Z≤1000;omega)
theorem resize_read2 {f:DFS} {i:Int} {Z:Nat} (hf:IsFS f) (hi:hasI f i=true) (hZ:Z≤100):readB (resizeS (resizeS f i Z) i 100) i 0 1000=padTo (readB f i 0 Z) 100:=by
 have hg:=IsFS.resize (Z:=Z) hf hi (by omega)
 have hh:=resize_has (Z:=Z) hf hi
 rw [resize_read hg hh (by decide),read_all hg hh (by decide),resize_text hf hi (by omega),read_all hf hi (by omega),Int.toNat_natCast]
 rw [Int.toNat_natCast,padTo_take (by rw [List.length_take];omega) (by omega),padTo_two (by omega) (by rw [List.length_take];omega)]
end Go.Fw
