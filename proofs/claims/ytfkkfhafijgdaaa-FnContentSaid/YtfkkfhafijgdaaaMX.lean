/- Plain law: what is written is read back, and the other bytes stay. -/
import Derived.Test.YtfkkfhafijgdaaaMW
namespace Go.Fw
set_option linter.unusedVariables false
set_option linter.unusedSimpArgs false
def bt (D:List Str) (n:DInode) (p:Nat):Option UInt8:=(blkT D (n.blocks.getD (p / 32) 0))[p % 32]?
theorem putS_get {old t:Str} {p q j:Nat} (hp:p≤old.length) (hq:p + t.length=q) (hql:q≤old.length):(putS old p q t)[j]? = if p≤j∧j < q then t[j - p]? else old[j]?:=by
 have h1:(old.take p).length=p:=by rw [List.length_take];omega
 have h2:(old.take p++t).length=q:=by rw [List.length_append,h1];omega
 unfold putS
 split
 ·rename_i h
  rw [List.getElem?_append_left (by omega),List.getElem?_append_right (by omega),h1]
 ·rename_i h
  by_cases hj:j < p
  ·rw [List.getElem?_append_left (by omega),List.getElem?_append_left (by omega),List.getElem?_take,if_pos hj]
  ·rw [List.getElem?_append_right (by omega),h2,List.getElem?_drop]
   congr 1
   omega
theorem zero_eq {s:Str} (h:zeroStr s=true) (hl:s.length=32):s=zero32:=by
 refine List.eq_replicate_iff.2 ⟨hl,fun b hb => ?_⟩
 have h1:=List.all_eq_true.1 h b hb
 simp only [decide_eq_true_eq] at h1
 exact UInt8.toNat_inj.1 h1
theorem WK.step_get {f:DFS} {i k a p:Nat} {x n:DInode} {s:Str} {D:List Str} (hf:IsFS f) (hi:i < 20) (hx:f.inodes[i]? = some x) (h:WK f i x (a + s.length:Nat) n D) (hk:k < (blocksNeeded (max x.size (a + s.length:Nat))).toNat) (h0:(wBlk f i n k).2=0) (ha:a < 32 * k + 32) (hs:32 * k < a + s.length) (hp:p / 32 < n.blocks.length) :
  bt (wD D (wBlk f i n k).1 a k s) (wN n k (wBlk f i n k).1) p=if p / 32=k∧a≤p∧p < a + s.length then s[p - a]? else bt D n p:=by
 have hil:i < f.inodes.length:=by rw [hf.ni];exact hi
 have hxe:f.inodes[i]=x:=by rw [List.getElem?_eq_getElem hil] at hx;exact Option.some.inj hx
 have hlen:=h.wi.len
 have hkl:k < n.blocks.length:=by omega
 have hg:n.blocks.getD k 0=n.blocks[k]:=by simp [hkl]
 obtain ⟨b,hb,hb56⟩:=wBlk_ok h.wi hk h0
 have hb1:(b:Int) ≠ -1:=by omega
 have hbD:b < D.length:=by rw [h.wi.nd];exact hb56
 have hold:=h.wi.secs _ (List.getElem_mem hbD)
 have hgD:D.getD b []=D[b]:=by simp [hbD]
 have hcase:(n.blocks[k] = -1∧(b:Int) ∉ allB (f.inodes.set i n))∨n.blocks[k]=(b:Int):=by
  by_cases hn1:n.blocks[k] = -1
  ·left
   have hw:wBlk f i n k=nextB (setI f i n) n.uid:=by rw [wBlk,hg,if_pos hn1]
   rw [hw] at h0 hb
   obtain ⟨c,hc,hc56,hco,hcn⟩:=nextB_ok h.wi.uid h0
   rw [hb] at hc
   have hbc:b=c:=by omega
   subst hbc
   exact ⟨hn1,hcn⟩
  ·right
   rw [wBlk,hg,if_neg hn1] at hb
   exact hb
 -- what the block held
 have hblk:blkT D n.blocks[k]=D[b]:=by
  rcases hcase with ⟨h1,h3⟩ | h1
  ·have hfr:=h.fresh hil hxe h3
   have h4:=h.out b hfr.2
   rw [List.getElem?_eq_getElem hbD] at h4
   have h5:=zero_eq (hf.rest b _ h4.symm hfr.1) hold
   rw [h1,h5]
   unfold blkT
   rw [if_pos rfl]
  ·rw [h1]
   unfold blkT
   rw [if_neg hb1,Int.toNat_natCast,hgD]
 rw [hb]
 unfold bt
 by_cases hpk:p / 32=k
 ·rw [hpk]
  have e1:(wN n k (b:Int)).blocks.getD k 0=b:=by
   simp only [wN]
   rw [List.getD_eq_getElem?_getD,List.getElem?_set_self hkl,Option.getD_some]
  have e2:blkT (wD D (b:Int) a k s) b=putS D[b] (wFrom a k - 32 * k) (wTo a k s - 32 * k) (wPart a k s):=by
   unfold blkT
   rw [if_neg hb1,Int.toNat_natCast,wD,Int.toNat_natCast,hgD,List.getD_eq_getElem?_getD,List.getElem?_set_self hbD,Option.getD_some]
  rw [e1,e2,hg,hblk]
  have hpm:p=32 * k + p % 32:=by omega
  rw [putS_get (by rw [hold];simp only [wFrom];omega) (by simp only [wPart,wFrom,wTo,List.length_take,List.length_drop];omega) (by rw [hold];simp only [wTo];omega)]
  by_cases hin:a≤p∧p < a + s.length
  ·rw [if_pos (by simp only [wFrom,wTo];omega),if_pos ⟨rfl,hin⟩]
   simp only [wPart,wFrom,wTo]
   rw [List.getElem?_take,if_pos (by omega),List.getElem?_drop]
   congr 1
   omega
  ·rw [if_neg (by simp only [wFrom,wTo];omega),if_neg (fun hh=>hin hh.2)]
 ·rw [if_neg (fun hh=>hpk hh.1)]
  have e1:(wN n k (b:Int)).blocks.getD (p / 32) 0=n.blocks[p / 32]:=by
   simp only [wN]
   rw [List.getD_eq_getElem?_getD,List.getElem?_set_ne (by omega),List.getElem?_eq_getElem hp,Option.getD_some]
  have e3:n.blocks.getD (p / 32) 0=n.blocks[p / 32]:=by simp [hp]
  rw [e1,e3]
  have hcs:n.blocks[p / 32]? = some n.blocks[p / 32]:=List.getElem?_eq_getElem hp
  have hcm:=List.getElem_mem hp
  generalize n.blocks[p / 32]=c at *
  have e4:blkT (wD D (b:Int) a k s) c=blkT D c:=by
   unfold blkT
   split
   ·rfl
   ·rename_i hc1
    have hr:=h.wi.blk c hcm hc1
    have hcb:b≠c.toNat:=by
     intro e
     have e5:c=(b:Int):=by omega
     rcases hcase with ⟨h1,h3⟩ | h1
     ·exact (h.fresh hil hxe h3).2 (e5 ▸ mem_real.2 ⟨hcm,hc1⟩)
     ·rcases Nat.lt_or_ge k (p / 32) with hlt | hge
      ·exact blk_ne h.wv.ok hlt (b:=b) (by rw [List.getElem?_eq_getElem hkl,h1]) (by rw [hcs,e5]) hb1
      ·exact blk_ne h.wv.ok (show p / 32 < k by omega) (b:=b) (by rw [hcs,e5]) (by rw [List.getElem?_eq_getElem hkl,h1]) hb1
    rw [wD,Int.toNat_natCast,getD_of (E:=D) (List.getElem?_set_ne hcb)]
  rw [e4]
theorem wLoop_get {f:DFS} {i a p:Nat} {x:DInode} {s:Str} (hf:IsFS f) (hi:i < 20) (hx:f.inodes[i]? = some x):∀ {m k:Nat} {n:DInode} {D:List Str},WK f i x (a + s.length:Nat) n D→k + m≤(blocksNeeded (max x.size (a + s.length:Nat))).toNat→a < 32 * k + 32→(0 < m→32 * (k + m - 1) < a + s.length)→(wLoop f i a s m k n D).2.2=0→p / 32 < n.blocks.length→
  bt (wLoop f i a s m k n D).2.1 (wLoop f i a s m k n D).1 p=if k≤p / 32∧p / 32 < k + m∧a≤p∧p < a + s.length then s[p - a]? else bt D n p
 | 0,k,n,D,h,_,_,_,_,_=>by rw [if_neg (by omega)];rfl
 | m + 1,k,n,D,h,hk,ha,hs,h0,hp=>by
  rw [wLoop] at h0 ⊢
  split
  ·rename_i hc
   rw [if_pos hc] at h0
   have hs2:=hs (by omega)
   rw [wLoop_get hf hi hx (h.step hf hi hx (by omega) hc ha (by omega)) (by omega) (by omega) (fun _=>by omega) h0 (by rw [wN_len];exact hp),WK.step_get hf hi hx h (by omega) hc ha (by omega) hp]
   by_cases h1:a≤p∧p < a + s.length
   ·by_cases h2:p / 32=k
    ·rw [if_neg (by omega),if_pos (by omega),if_pos (by omega)]
    ·by_cases h3:k + 1≤p / 32∧p / 32 < k + 1 + m
     ·rw [if_pos (by omega),if_pos (by omega)]
     ·rw [if_neg (by omega),if_neg (by omega),if_neg (by omega)]
   ·rw [if_neg (by omega),if_neg (by omega),if_neg (by omega)]
  ·rename_i hc
   rw [if_neg hc] at h0
   exact absurd h0 hc
theorem writeL_get {f:DFS} {i a p:Nat} {s:Str} (hs:SmF f) (hf:IsFS f) (hi:hasI f i=true) (hs0:0 < s.length) (he:a + s.length≤256) (h0:(writeL f i a s).2.2=0) (hp:p / 32 < (sized (inodeAt f i) (a + s.length:Nat)).blocks.length) :
  bt (writeL f i a s).2.1 (writeL f i a s).1 p=if a≤p∧p < a + s.length then s[p - a]? else bt f.data (sized (inodeAt f i) (a + s.length:Nat)) p:=by
 have hl:=hasI_lt hi
 have hok:=hasI_ok hf hi
 have hk:i < f.inodes.length:=by rw [hf.ni];omega
 have hxe:=inodeAt_nat hk
 have hx:f.inodes[i]? = some (inodeAt f i):=by rw [hxe];exact List.getElem?_eq_getElem hk
 have hst:=WK.start hs hf (by omega) hx hok (e:=(a + s.length:Nat)) (by omega)
 have h1:=needed_mono (a:=((a + s.length:Nat):Int)) (b:=max (inodeAt f i).size (a + s.length:Nat)) (by omega)
 have h2:blocksNeeded ((a + s.length:Nat):Int)=((a + s.length - 1) / 32 + 1:Nat):=by
  unfold blocksNeeded
  rw [if_neg (by omega)]
  omega
 have hst2:wSteps a s=(a + s.length - 1) / 32 + 1 - a / 32:=rfl
 have h3:a / 32≤(a + s.length - 1) / 32:=Nat.div_le_div_right (by omega)
 unfold writeL at h0 ⊢
 have key:=wLoop_get (p:=p) hf (by omega) hx hst (m:=wSteps a s) (k:=a / 32) (by omega) (by omega) (fun _=>by omega) h0 hp
 refine key.trans ?_
 by_cases h:a≤p∧p < a + s.length
 ·rw [if_pos h,if_pos ⟨by omega,by omega,h⟩]
 ·rw [if_neg h,if_neg (fun hh=>h hh.2.2)]
theorem sized_get {D:List Str} {n:DInode} {p:Nat} {e:Int} (hn:InodeOK n) (hb:Blks D n.blocks) (ht:TailOK D n) (hnd:(real n.blocks).Nodup) (hp:(p:Int) < max n.size e) :
  bt D (sized n e) p=some (if (p:Int) < n.size then (textB D n.blocks).getD p 0 else 0):=by
 have hsz:=hn.size
 obtain ⟨Z,hZ⟩:=Int.eq_ofNat_of_zero_le (show 0≤max n.size e by omega)
 have h1:=resize_get (p:=p) (Z:=Z) hn hb ht hnd (by omega)
 have hbl:=hn.blocks
 have hmono:=needed_mono (a:=n.size) (b:=Z) (by omega)
 have hrl:(rB n Z).length=max n.blocks.length (blocksNeeded Z).toNat:=growB_len
 have hd:(rB n Z).drop (blocksNeeded Z).toNat = []:=List.drop_of_length_le (by omega)
 have e1:rD D n Z=D:=by
  unfold rD
  rw [hd]
  unfold cutD
  rw [if_neg (by omega)]
  rfl
 have e2:(rN n Z).blocks=(sized n e).blocks:=by
  unfold rN sized
  simp only
  rw [List.take_of_length_le (by omega),hZ]
  rfl
 rw [e1,e2] at h1
 exact h1
theorem sized_len {n:DInode} {e:Int}:(sized n e).blocks.length=max n.blocks.length (blocksNeeded (max n.size e)).toNat:=growB_len
theorem write_text {f:DFS} {i:Int} {A:Nat} {s:Str} (hs:SmF f) (hf:IsFS f) (hi:hasI f i=true) (hs0:s ≠ []) (h0:(writeF f i A s).2=0) :
  contentN (writeF f i A s).1.data (inodeAt (writeF f i A s).1 i)=padTo ((contentN f.data (inodeAt f i)).take A) A++s++(contentN f.data (inodeAt f i)).drop (A + s.length):=by
 have hg:=IsFS.write hs hf hi h0
 have hl:=hasI_lt hi
 have hok:=hasI_ok hf hi
 obtain ⟨k,rfl⟩:=Int.eq_ofNat_of_zero_le hl.1
 have hk:k < f.inodes.length:=by rw [hf.ni];omega
 have he:=inodeAt_nat hk
 have hmem:=List.getElem_mem hk
 have hbk:=hf.blks hmem
 have hsz:=contentN_size hf hmem
 have hcl:=contentN_len hf hmem
 have hnd:(real f.inodes[k].blocks).Nodup:=by
  have h1:=hf.once
  rw [allB_split hk] at h1
  exact (List.nodup_append.1 (List.nodup_append.1 h1).2.1).1
 have hsl:0 < s.length:=List.length_pos_iff.2 hs0
 have hw0:writeF f (k:Int) A s=(⟨f.tick,f.quotas,f.inodes.set k (writeL f k A s).1,(writeL f k A s).2.1⟩,(writeL f k A s).2.2)∧A + s.length≤256:=by
  unfold writeF at h0 ⊢
  by_cases h1:(256:Int) < (A:Int) + s.length
  ·rw [if_neg (by omega),if_pos h1] at h0
   exact absurd (show (9:Int)=0 from h0) (by decide)
  ·rw [if_neg (by omega),if_neg h1,if_neg hs0]
   exact ⟨by simp only [Int.toNat_natCast],by omega⟩
 obtain ⟨hw,h256⟩:=hw0
 rw [hw] at h0 hg ⊢
 simp only at h0 hg ⊢
 have hget:=fun p=>writeL_get (p:=p) hs hf hi hsl h256 h0
 have hkp:=writeL_keeps hs hf hi hsl h256 h0
 have hwsz:=hkp.size
 have hwl:=hkp.wi.len
 generalize (writeL f k A s).1=n at *
 generalize (writeL f k A s).2.1=D at *
 have hk2:k < (f.inodes.set k n).length:=by rw [List.length_set];exact hk
 have hin:inodeAt ⟨f.tick,f.quotas,f.inodes.set k n,D⟩ (k:Int)=n:=by rw [inodeAt_set hk,if_pos (by simp)]
 have hmem2:n ∈ (DFS.mk f.tick f.quotas (f.inodes.set k n) D).inodes:=List.mem_set hk n
 have hbk2:=hg.blks hmem2
 have hsz2:=contentN_size hg hmem2
 have hcl2:=contentN_len hg hmem2
 dsimp only at hcl2
 have htl2:=textB_len hbk2
 have htl:=textB_len hbk
 rw [hin]
 rw [he] at hok hget hwsz hwl ⊢
 generalize f.inodes[k]=x at *
 have hsl2:=sized_len (n:=x) (e:=((A + s.length:Nat):Int))
 have hmono:=needed_mono (a:=x.size) (b:=max x.size ((A + s.length:Nat):Int)) (by omega)
 have hxb:=hok.blocks
 have hxs:=hok.size
 apply List.ext_getElem?
 intro p
 by_cases hp:(p:Int) < max x.size (A + s.length:Nat)
 ·have hpl:p / 32 < n.blocks.length:=by
   have h1:=hkp.wv.ok.blocks
   rw [hwsz] at h1
   unfold blocksNeeded at h1
   split at h1<;>omega
  have h2:=textB_get hbk2 p (by omega)
  have h3:=hget p (by omega)
  have h4:=sized_get (e:=((A + s.length:Nat):Int)) hok hbk (hf.tail _ hmem) hnd hp
  have e1:(contentN D n)[p]? = (textB D n.blocks)[p]?:=by
   unfold contentN
   rw [List.getElem?_take,if_pos (by omega)]
  have h5:bt D n p=(textB D n.blocks)[p]?:=h2.symm
  rw [e1,←h5,h3]
  have hpt:(padTo ((contentN f.data x).take A) A).length=A:=by rw [padTo_len,List.length_take];omega
  have hps:(padTo ((contentN f.data x).take A) A++s).length=A + s.length:=by rw [List.length_append,hpt]
  have hxc:(p:Int) < x.size→(contentN f.data x)[p]? = some ((textB f.data x.blocks).getD p 0):=fun hlt=>by
   unfold contentN
   rw [List.getElem?_take,if_pos (by omega),List.getD_eq_getElem?_getD,List.getElem?_eq_getElem (by omega),Option.getD_some]
  by_cases hin2:A≤p∧p < A + s.length
  ·rw [if_pos hin2,List.getElem?_append_left (by omega),List.getElem?_append_right (by omega),hpt]
  ·rw [if_neg hin2,h4]
   by_cases hpA:p < A
   ·rw [List.getElem?_append_left (by omega),List.getElem?_append_left (by omega),padTo]
    by_cases hps2:(p:Int) < x.size
    ·rw [if_pos hps2,List.getElem?_append_left (by rw [List.length_take];omega),List.getElem?_take,if_pos hpA,hxc hps2]
    ·rw [if_neg hps2,List.getElem?_append_right (by rw [List.length_take];omega),List.getElem?_replicate,if_pos (by rw [List.length_take];omega)]
   ·rw [if_pos (by omega),List.getElem?_append_right (by omega),hps,List.getElem?_drop,show A + s.length + (p - (A + s.length))=p by omega,hxc (by omega)]
 ·have hpt:(padTo ((contentN f.data x).take A) A).length=A:=by rw [padTo_len,List.length_take];omega
  rw [List.getElem?_eq_none (by omega),List.getElem?_eq_none (by rw [List.length_append,List.length_append,hpt,List.length_drop];omega)]
theorem write_has {f:DFS} {i:Int} {A:Nat} {s:Str} (hs:SmF f) (hf:IsFS f) (hi:hasI f i=true) (hs0:s ≠ []) (h0:(writeF f i A s).2=0):hasI (writeF f i A s).1 i=true:=by
 have hl:=hasI_lt hi
 obtain ⟨k,rfl⟩:=Int.eq_ofNat_of_zero_le hl.1
 have hk:k < f.inodes.length:=by rw [hf.ni];omega
 have hsl:0 < s.length:=List.length_pos_iff.2 hs0
 have hw0:writeF f (k:Int) A s=(⟨f.tick,f.quotas,f.inodes.set k (writeL f k A s).1,(writeL f k A s).2.1⟩,(writeL f k A s).2.2)∧A + s.length≤256:=by
  unfold writeF at h0 ⊢
  by_cases h1:(256:Int) < (A:Int) + s.length
  ·rw [if_neg (by omega),if_pos h1] at h0
   exact absurd (show (9:Int)=0 from h0) (by decide)
  ·rw [if_neg (by omega),if_neg h1,if_neg hs0]
   exact ⟨by simp only [Int.toNat_natCast],by omega⟩
 obtain ⟨hw,h256⟩:=hw0
 rw [hw] at h0 ⊢
 simp only at h0 ⊢
 have hkp:=writeL_keeps hs hf hi hsl h256 h0
 have hr:=congrArg DInode.kind hkp.rest
 unfold hasI at hi ⊢
 rw [inodeAt_set hk,if_pos (by simp),hr]
 exact hi
theorem read_at {f:DFS} {i n:Int} {A:Nat} (hf:IsFS f) (hi:hasI f i=true) (hn:0≤n):readB f i A n=((contentN f.data (inodeAt f i)).drop A).take n.toNat:=by
 unfold readB
 rw [if_pos (by simp [hf,hi,hn,tr_iff])]
 simp only [Int.toNat_natCast]
theorem write_read {f:DFS} {i:Int} {A:Nat} {s:Str} (hs:SmF f) (hf:IsFS f) (hi:hasI f i=true) (h0:(writeF f i A s).2=0) :
  readB (writeF f i A s).1 i A s.length=s∧(s ≠ []→readB (writeF f i A s).1 i 0 A=padTo (readB f i 0 A) A)∧readB (writeF f i A s).1 i (A + s.length:Nat) 1000=readB f i (A + s.length:Nat) 1000:=by
 have hg:=IsFS.write hs hf hi h0
 by_cases hs0:s = []
 ·subst hs0
  have e:(writeF f i A []).1=f:=by
   unfold writeF
   split
   ·rfl
   ·split
    ·rfl
    ·rw [if_pos rfl]
  rw [e]
  refine ⟨?_,fun h=>absurd rfl h,rfl⟩
  rw [read_at hf hi (by simp)]
  simp
 ·have hh:=write_has hs hf hi hs0 h0
  have ht:=write_text hs hf hi hs0 h0
  have hpt:(padTo ((contentN f.data (inodeAt f i)).take A) A).length=A:=by rw [padTo_len,List.length_take];omega
  refine ⟨?_,fun _ => ?_,?_⟩
  ·rw [read_at hg hh (by omega),ht,List.append_assoc,List.drop_append,List.drop_of_length_le (by omega),hpt,Nat.sub_self]
   simp
  ·have e1:=read_at (A:=0) (n:=(A:Int)) hg hh (by omega)
   have e2:=read_at (A:=0) (n:=(A:Int)) hf hi (by omega)
   simp only [Int.ofNat_zero,List.drop_zero,Int.toNat_natCast,Int.cast_ofNat_Int] at e1 e2
   rw [e1,e2,ht,List.append_assoc,List.take_append_of_le_length (by omega),List.take_of_length_le (by omega)]
  ·rw [read_at hg hh (by decide),read_at hf hi (by decide),ht]
   have h3:(padTo ((contentN f.data (inodeAt f i)).take A) A++s).length=A + s.length:=by rw [List.length_append,hpt]
   rw [List.drop_append,List.drop_of_length_le (by omega),h3,Nat.sub_self]
   simp
end Go.Fw
