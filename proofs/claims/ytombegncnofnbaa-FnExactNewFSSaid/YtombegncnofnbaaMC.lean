/- Plain facts: a file system stays valid when an inode and the data change; objects freed and resized. -/
import Derived.Test.YtombegncnofnbaaMA
namespace Go.Fw
set_option linter.unusedVariables false
theorem mem_allB {ns:List DInode} {b:Int}:b ∈ allB ns↔∃ n ∈ ns,b ∈ real n.blocks:=by simp [allB,List.mem_flatMap]
theorem allB_other {ns:List DInode} {i j:Nat} {b:Int} (h:(allB ns).Nodup) (hi:i < ns.length) (hj:j < ns.length) (hne:i≠j) (hb:b ∈ real ns[i].blocks):b ∉ real ns[j].blocks:=by
 intro hc
 rw [allB_split hi] at h
 have h1:=List.nodup_append.1 h
 have h2:=List.nodup_append.1 h1.2.1
 rcases Nat.lt_or_ge j i with hji | hji
 ·refine h1.2.2 b (mem_allB.2 ⟨ns[j],?_,hc⟩) b (List.mem_append_left _ hb) rfl
  exact List.mem_take_iff_getElem.2 ⟨j,by omega,rfl⟩
 ·refine h2.2.2 b hb b (mem_allB.2 ⟨ns[j],?_,hc⟩) rfl
  exact List.mem_drop_iff_getElem.2 ⟨j - (i + 1),by omega,by congr 1;omega⟩
theorem getD_of {D E:List Str} {k:Nat} (h:D[k]? = E[k]?):D.getD k []=E.getD k []:=by
 rw [List.getD_eq_getElem?_getD,List.getD_eq_getElem?_getD,h]
theorem IsFS.put {f:DFS} {i:Nat} {n:DInode} {D:List Str} (hf:IsFS f) (hi:i < 20) (hn:IsInode n) (how:OwnOK n) (hon:(allB (f.inodes.set i n)).Nodup) (nd:D.length=56) (sd:∀ s ∈ D,s.length=32)
  (hout:∀ k:Nat,(k:Int) ∉ real n.blocks→(k:Int) ∉ real (inodeAt f i).blocks→D[k]? = f.data[k]?)
  (hfree:∀ (k:Nat) s,(k:Int) ∈ real (inodeAt f i).blocks→(k:Int) ∉ real n.blocks→D[k]? = some s→zeroStr s=true) (htail:TailOK D n) (hroot:i=0→n.kind=2):IsFS ⟨f.tick,f.quotas,f.inodes.set i n,D⟩:=by
 have hil:i < f.inodes.length:=by rw [hf.ni];exact hi
 have he:=inodeAt_nat hil
 have hx:∀ {j:Nat} (hj:j < (f.inodes.set i n).length),i≠j→(f.inodes.set i n)[j]=f.inodes[j]'(by simpa using hj):=fun hj h=>List.getElem_set_ne h hj
 refine ⟨hf.tick,hf.nq,by simpa using hf.ni,nd,hf.quota,sd,fun m hm => ?_,fun m hm => ?_,hon,fun m hm => ?_,fun k s hk hnot => ?_,fun m hm => ?_⟩
 ·rcases List.mem_or_eq_of_mem_set hm with h | rfl
  ·exact hf.inode m h
  ·exact hn
 ·rcases List.mem_or_eq_of_mem_set hm with h | rfl
  ·exact hf.own m h
  ·exact how
 ·obtain ⟨j,hj,rfl⟩:=List.mem_iff_getElem.1 hm
  by_cases e:i=j
  ·subst e
   simpa using htail
  ·have hj2:j < f.inodes.length:=by simpa using hj
   have hmem:=List.getElem_mem hj2
   have hsi:i < (f.inodes.set i n).length:=by simpa using hil
   have hother:=fun b=>allB_other (b:=b) hon hj hsi (fun h=>e h.symm)
   rw [hx hj e] at hother ⊢
   intro b hb hb1
   have hbm:b ∈ f.inodes[j].blocks:=List.mem_of_getLast? hb
   have hbr:b ∈ real f.inodes[j].blocks:=mem_real.2 ⟨hbm,hb1⟩
   have h0:=(hf.blks hmem).2.2 b hbm hb1
   have h1:b ∉ real n.blocks:=by
    have:=hother b hbr
    simpa using this
   have h2:b ∉ real f.inodes[i].blocks:=allB_other hf.once hj2 hil (fun h=>e h.symm) hbr
   have hb2:((b.toNat:Nat):Int)=b:=by omega
   have h3:=hout b.toNat (by rw [hb2];exact h1) (by rw [hb2,he];exact h2)
   rw [getD_of h3]
   exact hf.tail _ hmem b hb hb1
 ·simp only at hk hnot
  have h1:(k:Int) ∉ real n.blocks:=fun h=>hnot (by
   rw [allB_set hil]
   exact List.mem_append_right _ (List.mem_append_left _ h))
  by_cases h2:(k:Int) ∈ real (inodeAt f i).blocks
  ·exact hfree k s h2 h1 hk
  ·rw [hout k h1 h2] at hk
   refine hf.rest k s hk fun h=>hnot ?_
   rw [allB_split hil] at h
   rw [allB_set hil]
   rcases List.mem_append.1 h with h | h
   ·exact List.mem_append_left _ h
   ·rcases List.mem_append.1 h with h | h
    ·exact absurd (by rw [he];exact h) h2
    ·exact List.mem_append_right _ (List.mem_append_right _ h)
 ·simp only at hm
  by_cases e:i=0
  ·subst e
   rw [List.getElem?_set_self hil] at hm
   cases hm
   exact hroot rfl
  ·rw [List.getElem?_set_ne e] at hm
   exact hf.root m hm
theorem zeroStr_rep {k:Nat}:zeroStr (List.replicate k 0)=true:=by simp [zeroStr]
theorem zeroStr_drop {s:Str} {k:Nat} (h:zeroStr s=true):zeroStr (s.drop k)=true:=by
 simp only [zeroStr,List.all_eq_true] at h ⊢
 exact fun b hb=>h b (List.mem_of_mem_drop hb)
theorem zeroStr_mono {s:Str} {j k:Nat} (h:zeroStr (s.drop j)=true) (hk:j≤k):zeroStr (s.drop k)=true:=by
 have:=zeroStr_drop (k:=k - j) h
 rwa [List.drop_drop,show j + (k - j)=k by omega] at this
theorem zeroR_in {c:Nat}:∀ {bs:List Int} {D:List Str},(∃ b ∈ bs,b.toNat=c)→c < D.length→(zeroR D bs)[c]? = some zero32
 | [],D,h,_=>by obtain ⟨b,hb,_⟩:=h;cases hb
 | b :: bs,D,h,hc=>by
  show (zeroR (D.set b.toNat zero32) bs)[c]? = _
  by_cases h2:∃ d ∈ bs,d.toNat=c
  ·exact zeroR_in h2 (by simpa using hc)
  ·rw [zeroR_get fun d hd e=>h2 ⟨d,hd,e⟩]
   obtain ⟨d,hd,e⟩:=h
   rcases List.mem_cons.1 hd with rfl | hd
   ·rw [e,List.getElem?_set_self hc]
   ·exact absurd ⟨d,hd,e⟩ h2
theorem IsFS.free {f:DFS} {i:Int} (hf:IsFS f) (hi:0≤i∧i < 20) (h0:i≠0):IsFS (freeF f i):=by
 obtain ⟨k,rfl⟩:=Int.eq_ofNat_of_zero_le hi.1
 have hk:k < f.inodes.length:=by rw [hf.ni];omega
 have he:=inodeAt_nat hk
 have hb:=hf.blks (List.getElem_mem hk)
 have hrng:∀ b ∈ real f.inodes[k].blocks,0≤b∧b < 56:=fun b h=>hb.2.2 b (mem_real.1 h).1 (mem_real.1 h).2
 unfold freeF
 rw [Int.toNat_natCast]
 refine hf.put (by omega) (.inl rfl) (fun b h=>by simp [zeroInode] at h) ?_ (by rw [zeroR_len];exact hf.nd) (zeroR_secs hf.secs) (fun c h1 h2 => ?_) (fun c s h1 h2 hs => ?_) (tail_nil rfl) (by omega)
 ·have h1:=hf.once
  rw [allB_split hk] at h1
  rw [allB_set hk]
  refine List.Sublist.nodup (List.Sublist.append (List.Sublist.refl _) (List.Sublist.append ?_ (List.Sublist.refl _))) h1
  exact List.nil_sublist _
 ·rw [he] at h2 ⊢
  refine zeroR_get fun b h e=>h2 ?_
  have:=hrng b h
  rwa [show ((c:Nat):Int)=b by omega]
 ·rw [he] at h1 hs
  rw [zeroR_in ⟨c,h1,by simp⟩ (by have:=hrng c h1;rw [hf.nd];omega)] at hs
  cases hs
  exact zeroStr_rep
theorem hasI_ok {f:DFS} {i:Int} (hf:IsFS f) (h:hasI f i=true):InodeOK (inodeAt f i):=by
 have h1:=hasI_lt h
 exact (isInode_ok h1.2.2).1 (hf.sm i ⟨h1.1,h1.2.1⟩)
theorem real_sub {l m:List Int} (h:l.Sublist m):(real l).Sublist (real m):=List.Sublist.filter _ h
theorem needed_last {Z:Int} (h:0 < Z):32 * (blocksNeeded Z - 1) < Z∧Z≤32 * blocksNeeded Z:=by
 unfold blocksNeeded
 rw [if_neg (by omega)]
 omega
theorem rB_len {n:DInode} {Z:Nat}:(rB n Z).length=max n.blocks.length (blocksNeeded Z).toNat:=growB_len
theorem rN_len {n:DInode} {Z:Nat}:(rN n Z).blocks.length=(blocksNeeded Z).toNat:=by
 simp only [rN,List.length_take,rB_len]
 omega
theorem rN_mem {n:DInode} {Z:Nat} {b:Int} (h:b ∈ (rN n Z).blocks) (hb:b ≠ -1):b ∈ n.blocks:=mem_growB (List.mem_of_mem_take h) hb
theorem rN_real {n:DInode} {Z:Nat}:(real (rN n Z).blocks).Sublist (real n.blocks):=by
 have h:=real_sub (List.take_sublist (blocksNeeded Z).toNat (rB n Z))
 rwa [show real (rB n Z)=real n.blocks from real_growB] at h
theorem rN_ok {n:DInode} {Z:Nat} (h:InodeOK n) (hZ:Z≤256):InodeOK (rN n Z):=by
 refine ⟨h.kind,h.mode,h.uid,h.gid,h.links,?_,h.tick,?_,?_,h.acl,h.dflt,h.file⟩
 ·simp only [rN];omega
 ·rw [rN_len]
  have:=blocksNeeded_nn (s:=(Z:Int))
  simp only [rN]
  omega
 ·intro j hj b hb
  by_cases h1:b = -1
  ·exact .inl h1
  simp only [rN] at hb ⊢
  rw [rN_len] at hj
  rw [List.getElem?_take,if_pos hj,rB,growB] at hb
  have hjl:j < n.blocks.length:=by
   rcases Nat.lt_or_ge j n.blocks.length with h6 | h6
   ·exact h6
   ·rw [List.getElem?_append_right h6] at hb
    exact absurd (List.mem_replicate.1 (List.mem_of_getElem? hb)).2 h1
  rw [List.getElem?_append_left hjl] at hb
  have:=h.blk j hjl b hb
  rw [List.take_take,Nat.min_eq_left (by omega),rB,growB,List.take_append_of_le_length (by omega)]
  exact this
theorem rD_len {D:List Str} {n:DInode} {Z:Nat}:(rD D n Z).length=D.length:=by
 unfold rD cutD
 split
 ·rw [List.length_set,zeroR_len]
 ·exact zeroR_len
theorem rD_secs {D:List Str} {n:DInode} {Z:Nat} (hd:∀ s ∈ D,s.length=32):∀ s ∈ rD D n Z,s.length=32:=by
 intro s hs
 have hz:=zeroR_secs (bs:=real ((rB n Z).drop (blocksNeeded Z).toNat)) hd
 unfold rD cutD at hs
 split at hs
 ·rename_i hc
  rcases List.mem_or_eq_of_mem_set hs with h | rfl
  ·exact hz s h
  ·generalize (zeroR D (real ((rB n Z).drop (blocksNeeded Z).toNat)))=E at *
   have hl:∀ k:Nat,((E.getD k []).take (Z % 32)).length≤Z % 32:=fun k=>by rw [List.length_take];omega
   rw [List.length_append,List.length_replicate,List.length_take]
   rw [List.getD_eq_getElem?_getD]
   cases hE:E[((rB n Z).getD ((blocksNeeded Z).toNat - 1) 0).toNat]? with
   | none=>
    rw [List.set_eq_of_length_le (List.getElem?_eq_none_iff.1 hE)] at hs
    have:=hz _ hs
    rw [List.getD_eq_getElem?_getD,hE,List.length_append,List.length_replicate,List.length_take] at this
    exact this
   | some t=>
    have:=hz t (List.mem_of_getElem? hE)
    rw [Option.getD_some]
    omega
 ·exact hz s hs
theorem rD_at {D:List Str} {n:DInode} {Z c:Nat} (h:(c:Int) ∉ real (rN n Z).blocks) (hr:∀ b ∈ n.blocks,b ≠ -1→0≤b):(rD D n Z)[c]? = (zeroR D (real ((rB n Z).drop (blocksNeeded Z).toNat)))[c]?:=by
 unfold rD cutD
 split
 ·rename_i hc
  rw [List.getElem?_set_ne]
  intro e
  apply h
  have hn:=needed_pos (a:=(Z:Int)) (by omega)
  have hlt:(blocksNeeded Z).toNat - 1 < (blocksNeeded Z).toNat:=by omega
  have hlt2:(blocksNeeded Z).toNat - 1 < (rB n Z).length:=by rw [rB_len];omega
  have hg:(rB n Z).getD ((blocksNeeded Z).toNat - 1) 0=(rB n Z)[(blocksNeeded Z).toNat - 1]:=by simp [hlt2]
  rw [hg] at hc e
  have hm:(rB n Z)[(blocksNeeded Z).toNat - 1] ∈ (rN n Z).blocks:=List.mem_take_iff_getElem.2 ⟨_,by omega,rfl⟩
  have h0:=hr _ (rN_mem hm hc.2.2) hc.2.2
  refine mem_real.2 ⟨?_,by omega⟩
  rw [show ((c:Nat):Int)=(rB n Z)[(blocksNeeded Z).toNat - 1] by omega]
  exact hm
 ·rfl
theorem rD_tail {D:List Str} {n:DInode} {Z:Nat} (hn:InodeOK n) (hZ:Z≤256) (hd:∀ s ∈ D,s.length=32) (hD:D.length=56) (hr:∀ b ∈ n.blocks,b ≠ -1→0≤b∧b < 56) (ht:TailOK D n):TailOK (rD D n Z) (rN n Z):=by
 intro b hb hb1
 have hlen:=rN_len (n:=n) (Z:=Z)
 have hm:=List.mem_of_getLast? hb
 have hpos:0 < (blocksNeeded Z).toNat:=by rw [←hlen];exact List.length_pos_of_mem hm
 have hZ0:0 < Z:=by
  rcases Nat.eq_zero_or_pos Z with h | h
  ·subst h;simp [blocksNeeded] at hpos
  ·exact h
 have hne:=needed_last (Z:=(Z:Int)) (by omega)
 have hb0:=hr b (rN_mem hm hb1) hb1
 have hsecs:=rD_secs (n:=n) (Z:=Z) hd
 have hbD:b.toNat < (rD D n Z).length:=by rw [rD_len,hD];omega
 rw [List.getLast?_eq_getElem?,hlen] at hb
 simp only [rN] at hb
 rw [List.getElem?_take,if_pos (by omega)] at hb
 have hlt2:(blocksNeeded Z).toNat - 1 < (rB n Z).length:=by rw [rB_len];omega
 have hg:(rB n Z).getD ((blocksNeeded Z).toNat - 1) 0=b:=by rw [List.getD_eq_getElem?_getD,hb];rfl
 rw [hlen]
 have hsz:(rN n Z).size=Z:=rfl
 rw [hsz]
 have hx:(rD D n Z).getD b.toNat []=(rD D n Z)[b.toNat]:=by simp [hbD]
 by_cases h32:Z % 32=0
 ·rw [hx,List.drop_of_length_le (by rw [hsecs _ (List.getElem_mem hbD)];omega)]
  rfl
 have hdz:((Z:Int) - 32 * (((blocksNeeded Z).toNat:Int) - 1)).toNat=Z % 32:=by omega
 rw [hdz]
 by_cases hcut:(Z:Int) < n.size
 ·have hz:=zeroR_secs (bs:=real ((rB n Z).drop (blocksNeeded Z).toNat)) hd
  have hzl:=zeroR_len (data:=D) (bs:=real ((rB n Z).drop (blocksNeeded Z).toNat))
  unfold rD cutD
  rw [hg,if_pos ⟨hcut,by omega,hb1⟩]
  generalize (zeroR D (real ((rB n Z).drop (blocksNeeded Z).toNat)))=E at *
  have hbE:b.toNat < E.length:=by omega
  rw [List.getD_eq_getElem?_getD,List.getElem?_set_self hbE,Option.getD_some,List.getD_eq_getElem?_getD,List.getElem?_eq_getElem hbE,Option.getD_some]
  have hl:=hz _ (List.getElem_mem hbE)
  rw [List.drop_append,List.drop_of_length_le (by rw [List.length_take];omega),List.nil_append]
  exact zeroStr_drop zeroStr_rep
 ·have hmono:=needed_mono (a:=n.size) (b:=Z) (by omega)
  have hbl:=hn.blocks
  have hbm:b ∈ n.blocks:=rN_mem hm hb1
  by_cases hl:n.blocks.length=(blocksNeeded Z).toNat
  ·have hB:rB n Z=n.blocks:=rB_held (by omega)
   have hDD:rD D n Z=D:=by
    unfold rD cutD
    rw [if_neg (by omega),hB,List.drop_of_length_le (by omega)]
    rfl
   rw [hDD]
   rw [hB] at hb
   have h3:=ht b (by rw [List.getLast?_eq_getElem?,hl];exact hb) hb1
   refine zeroStr_mono h3 ?_
   omega
  ·exfalso
   rw [rB,growB,List.getElem?_append_right (by omega)] at hb
   exact hb1 (List.mem_replicate.1 (List.mem_of_getElem? hb)).2
theorem IsFS.resize {f:DFS} {i:Int} {Z:Nat} (hf:IsFS f) (hi:hasI f i=true) (hZ:Z≤256):IsFS (resizeS f i Z):=by
 have hl:=hasI_lt hi
 have hok:=hasI_ok hf hi
 obtain ⟨k,rfl⟩:=Int.eq_ofNat_of_zero_le hl.1
 have hk:k < f.inodes.length:=by rw [hf.ni];omega
 have he:=inodeAt_nat hk
 unfold resizeS
 rw [Int.toNat_natCast]
 rw [he] at hok ⊢
 have hb:=hf.blks (List.getElem_mem hk)
 have hrn:∀ b ∈ f.inodes[k].blocks,b ≠ -1→0≤b:=fun b h1 h2=>(hb.2.2 b h1 h2).1
 refine hf.put (by omega) (.inr (rN_ok hok hZ)) (fun b h h1=>hf.own _ (List.getElem_mem hk) b (rN_mem h h1) h1) ?_ (by rw [rD_len];exact hf.nd) (rD_secs hf.secs) (fun c h1 h2 => ?_) (fun c s h1 h2 hs => ?_) (rD_tail hok hZ hf.secs hf.nd hb.2.2 (hf.tail _ (List.getElem_mem hk))) (fun h0 => ?_)
 ·have h1:=hf.once
  rw [allB_split hk] at h1
  rw [allB_set hk]
  exact List.Sublist.nodup (List.Sublist.append (List.Sublist.refl _) (List.Sublist.append rN_real (List.Sublist.refl _))) h1
 ·rw [rD_at h1 hrn]
  rw [he] at h2
  refine zeroR_get fun b h e=>h2 ?_
  have h3:=(real_sub (List.drop_sublist _ _)).subset h
  rw [show real (rB f.inodes[k] Z)=real f.inodes[k].blocks from real_growB] at h3
  have h4:=mem_real.1 h3
  have:=hrn b h4.1 h4.2
  rwa [show ((c:Nat):Int)=b by omega]
 ·rw [rD_at h2 hrn] at hs
  rw [he] at h1
  have h3:(c:Int) ∈ real ((rB f.inodes[k] Z).drop (blocksNeeded Z).toNat):=by
   rw [←real_growB (m:=(blocksNeeded Z).toNat),real_take_drop (k:=(blocksNeeded Z).toNat)] at h1
   rcases List.mem_append.1 h1 with h | h
   ·exact absurd h h2
   ·exact h
  have h4:=mem_real.1 h1
  rw [zeroR_in ⟨c,h3,by simp⟩ (by have:=(hb.2.2 c h4.1 h4.2).2;rw [hf.nd];omega)] at hs
  cases hs
  exact zeroStr_rep
 ·subst h0
  exact hf.root f.inodes[0] (List.getElem?_eq_getElem hk)
structure WK (f:DFS) (i:Nat) (x:DInode) (e:Int) (n:DInode) (D:List Str):Prop where
 wi:WI f i (blocksNeeded (max x.size e)).toNat n D
 wv:WV f.inodes i n
 rest:n={ sized x e with blocks:=n.blocks }
 sub:∀ b,b ∈ real x.blocks→b ∈ real n.blocks
 out:∀ c:Nat,(c:Int) ∉ real n.blocks→D[c]? = f.data[c]?
 tail:TailOK D n
theorem putS_drop {old t:Str} {p q d:Nat} (hp:p≤old.length) (hq:p + t.length=q) (hd:q≤d):(putS old p q t).drop d=old.drop d:=by
 have hl:(old.take p++t).length=q:=by rw [List.length_append,List.length_take];omega
 rw [putS,List.drop_append,List.drop_of_length_le (by omega),hl,List.nil_append,List.drop_drop]
 congr 1
 omega
theorem wN_len {n:DInode} {k:Nat} {b:Int}:(wN n k b).blocks.length=n.blocks.length:=by simp [wN]
theorem real_wN {n:DInode} {k:Nat} {b:Int} (h:k < n.blocks.length) (hk:n.blocks[k] = -1) (hb:b ≠ -1) {c:Int}:c ∈ real (wN n k b).blocks↔c=b∨c ∈ real n.blocks:=by
 have hr:=real_set h hk hb
 simp only [wN]
 rw [hr.1,hr.2]
 simp only [List.mem_append,List.mem_cons]
 constructor
 ·rintro (h1 | h1 | h1)
  ·exact .inr (.inl h1)
  ·exact .inl h1
  ·exact .inr (.inr h1)
 ·rintro (h1 | h1 | h1)
  ·exact .inr (.inl h1)
  ·exact .inl h1
  ·exact .inr (.inr h1)
theorem WK.start {f:DFS} {i:Nat} {x:DInode} {e:Int} (hs:SmF f) (hf:IsFS f) (hi:i < 20) (hx:f.inodes[i]? = some x) (hok:InodeOK x) (he:e≤256):WK f i x e (sized x e) f.data:=by
 have hil:i < f.inodes.length:=by rw [hf.ni];exact hi
 have hxe:f.inodes[i]=x:=by rw [List.getElem?_eq_getElem hil] at hx;exact Option.some.inj hx
 have hmem:x ∈ f.inodes:=hxe ▸ List.getElem_mem hil
 have hrg:InR f.inodes:=fun n hn b hb h1=>(hf.blks hn).2.2 b hb h1
 refine ⟨WI.start hs hf.nq hf.ni hi hrg hx hok he hf.nd hf.secs,WV.start hil hxe hok he hf.own hf.once,rfl,fun b hb => ?_,fun c _=>rfl,?_⟩
 ·rw [show real (sized x e).blocks=real x.blocks from real_growB]
  exact hb
 ·intro b hb hb1
  have hbl:=hok.blocks
  have hmono:=needed_mono (a:=x.size) (b:=max x.size e) (by omega)
  have hlen:(sized x e).blocks.length=max x.blocks.length (blocksNeeded (max x.size e)).toNat:=growB_len
  by_cases hl:x.blocks.length=(blocksNeeded (max x.size e)).toNat
  ·have hB:(sized x e).blocks=x.blocks:=growB_zero (by omega)
   rw [hB] at hb ⊢
   refine zeroStr_mono (hf.tail x hmem b hb hb1) ?_
   simp only [sized]
   omega
  ·exfalso
   rw [List.getLast?_eq_getElem?] at hb
   simp only [sized] at hb hlen
   rw [hlen,growB,List.getElem?_append_right (by omega)] at hb
   exact hb1 (List.mem_replicate.1 (List.mem_of_getElem? hb)).2
theorem WK.size {f:DFS} {i:Nat} {x n:DInode} {e:Int} {D:List Str} (h:WK f i x e n D):n.size=max x.size e:=by
 have:=congrArg DInode.size h.rest
 exact this
theorem WK.fresh {f:DFS} {i:Nat} {x n:DInode} {e:Int} {D:List Str} {c:Nat} (h:WK f i x e n D) (hi:i < f.inodes.length) (hx:f.inodes[i]=x) (hc:(c:Int) ∉ allB (f.inodes.set i n)):(c:Int) ∉ allB f.inodes∧(c:Int) ∉ real n.blocks:=by
 rw [allB_set hi] at hc
 refine ⟨fun hm=>hc ?_,fun hm=>hc (List.mem_append_right _ (List.mem_append_left _ hm))⟩
 rw [allB_split hi,hx] at hm
 rcases List.mem_append.1 hm with h1 | h1
 ·exact List.mem_append_left _ h1
 ·rcases List.mem_append.1 h1 with h1 | h1
  ·exact List.mem_append_right _ (List.mem_append_left _ (h.sub _ h1))
  ·exact List.mem_append_right _ (List.mem_append_right _ h1)
theorem WK.step {f:DFS} {i k a:Nat} {x n:DInode} {s:Str} {D:List Str} (hf:IsFS f) (hi:i < 20) (hx:f.inodes[i]? = some x) (h:WK f i x (a + s.length:Nat) n D) (hk:k < (blocksNeeded (max x.size (a + s.length:Nat))).toNat) (h0:(wBlk f i n k).2=0) (ha:a < 32 * k + 32) (hs:32 * k < a + s.length):WK f i x (a + s.length:Nat) (wN n k (wBlk f i n k).1) (wD D (wBlk f i n k).1 a k s):=by
 have hil:i < f.inodes.length:=by rw [hf.ni];exact hi
 have hxe:f.inodes[i]=x:=by rw [List.getElem?_eq_getElem hil] at hx;exact Option.some.inj hx
 have hlen:=h.wi.len
 have hkl:k < n.blocks.length:=by omega
 have hg:n.blocks.getD k 0=n.blocks[k]:=by simp [hkl]
 have hwi:=h.wi.step hk h0 ha hs
 obtain ⟨b,hb,hb56⟩:=wBlk_ok h.wi hk h0
 -- old or new
 have hcase:(n.blocks[k] = -1∧ownerOf b=n.uid∧(b:Int) ∉ allB (f.inodes.set i n))∨n.blocks[k]=(b:Int):=by
  by_cases hn1:n.blocks[k] = -1
  ·left
   have hw:wBlk f i n k=nextB (setI f i n) n.uid:=by rw [wBlk,hg,if_pos hn1]
   rw [hw] at h0 hb
   obtain ⟨c,hc,hc56,hco,hcn⟩:=nextB_ok h.wi.uid h0
   rw [hb] at hc
   have hbc:b=c:=by omega
   subst hbc
   exact ⟨hn1,hco,hcn⟩
  ·right
   rw [wBlk,hg,if_neg hn1] at hb
   exact hb
 rw [hb] at hwi ⊢
 have hb1:(b:Int) ≠ -1:=by omega
 have hbD:b < D.length:=by rw [h.wi.nd];exact hb56
 have hold:=h.wi.secs _ (List.getElem_mem hbD)
 have hgD:D.getD b []=D[b]:=by simp [hbD]
 have hwv:WV f.inodes i (wN n k b):=by
  rcases hcase with ⟨h1,h2,h3⟩ | h1
  ·exact h.wv.step hil hkl h1 hb56 h2 h3
  ·rw [wN_same hkl h1];exact h.wv
 have hmem:∀ c:Int,c ∈ real (wN n k b).blocks↔c=b∨c ∈ real n.blocks:=by
  intro c
  rcases hcase with ⟨h1,h2,h3⟩ | h1
  ·exact real_wN hkl h1 hb1
  ·rw [wN_same hkl h1]
   exact ⟨.inr,fun h2=>h2.elim (fun e=>e ▸ mem_real.2 ⟨h1 ▸ List.getElem_mem hkl,hb1⟩) id⟩
 refine ⟨hwi,hwv,?_,fun c hc=>(hmem c).2 (.inr (h.sub c hc)),fun c hc => ?_,?_⟩
 ·have:=h.rest
  simp only [wN]
  conv=>lhs;rw [this]
 ·rw [hmem] at hc
  have hcb:b≠c:=fun e=>hc (.inl (by omega))
  rw [wD,Int.toNat_natCast,List.getElem?_set_ne hcb]
  exact h.out c fun h1=>hc (.inr h1)
 ·intro c hc hc1
  have hsz:=h.size
  rw [List.getLast?_eq_getElem?,wN_len] at hc
  rw [wN_len]
  have hsz2:(wN n k b).size=n.size:=rfl
  rw [hsz2]
  simp only [wN] at hc
  by_cases hkl2:k=n.blocks.length - 1
  ·rw [←hkl2,List.getElem?_set_self hkl] at hc
   cases hc
   rw [wD,Int.toNat_natCast,hgD,List.getD_eq_getElem?_getD,List.getElem?_set_self hbD,Option.getD_some]
   have hd:((n.size - 32 * ((n.blocks.length:Int) - 1)).toNat:Int)=n.size - 32 * k:=by
    have h1:32 * (k:Int) < n.size:=by rw [hsz];omega
    omega
   rw [putS_drop (by rw [hold];simp only [wFrom];omega) (by simp only [wPart,wFrom,wTo,List.length_take,List.length_drop];omega) (by simp only [wTo];omega)]
   rcases hcase with ⟨h1,h2,h3⟩ | h1
   ·have hfr:=h.fresh hil hxe h3
    have h4:=h.out b hfr.2
    rw [List.getElem?_eq_getElem hbD] at h4
    exact zeroStr_drop (hf.rest b _ h4.symm hfr.1)
   ·have h4:=h.tail b (by rw [List.getLast?_eq_getElem?,←hkl2,List.getElem?_eq_getElem hkl,h1]) hb1
    rwa [Int.toNat_natCast,hgD] at h4
  ·rw [List.getElem?_set_ne hkl2] at hc
   have hcb:c≠(b:Int):=by
    rintro rfl
    refine blk_ne hwv.ok (show k < n.blocks.length - 1 by omega) (b:=b) ?_ ?_ hb1
    ·simp only [wN];exact List.getElem?_set_self hkl
    ·simp only [wN];rw [List.getElem?_set_ne hkl2];exact hc
   have hc0:=h.wi.blk c (List.mem_of_getElem? hc) hc1
   have h4:=h.tail c (by rw [List.getLast?_eq_getElem?];exact hc) hc1
   rw [wD,Int.toNat_natCast,getD_of (E:=D) (List.getElem?_set_ne (by omega))]
   exact h4
theorem wLoop_keeps {f:DFS} {i a:Nat} {x:DInode} {s:Str} (hf:IsFS f) (hi:i < 20) (hx:f.inodes[i]? = some x):∀ {m k:Nat} {n:DInode} {D:List Str},WK f i x (a + s.length:Nat) n D→k + m≤(blocksNeeded (max x.size (a + s.length:Nat))).toNat→a < 32 * k + 32→(0 < m→32 * (k + m - 1) < a + s.length)→(wLoop f i a s m k n D).2.2=0→WK f i x (a + s.length:Nat) (wLoop f i a s m k n D).1 (wLoop f i a s m k n D).2.1
 | 0,k,n,D,h,_,_,_,_=>h
 | m + 1,k,n,D,h,hk,ha,hs,h0=>by
  rw [wLoop] at h0 ⊢
  split
  ·rename_i hc
   rw [if_pos hc] at h0
   have hs2:=hs (by omega)
   exact wLoop_keeps hf hi hx (h.step hf hi hx (by omega) hc ha (by omega)) (by omega) (by omega) (fun _=>by omega) h0
  ·rename_i hc
   rw [if_neg hc] at h0
   exact absurd h0 hc
theorem writeL_keeps {f:DFS} {i a:Nat} {s:Str} (hs:SmF f) (hf:IsFS f) (hi:hasI f i=true) (hs0:0 < s.length) (he:a + s.length≤256) (h0:(writeL f i a s).2.2=0):WK f i (inodeAt f i) (a + s.length:Nat) (writeL f i a s).1 (writeL f i a s).2.1:=by
 have hl:=hasI_lt hi
 have hok:=hasI_ok hf hi
 have hk:i < f.inodes.length:=by rw [hf.ni];omega
 have hxe:=inodeAt_nat hk
 have hx:f.inodes[i]? = some (inodeAt f i):=by rw [hxe];exact List.getElem?_eq_getElem hk
 have hst:=WK.start hs hf (by omega) hx hok (e:=(a + s.length:Nat)) (by omega)
 have h1:=needed_mono (a:=((a + s.length:Nat):Int)) (b:=max (inodeAt f i).size (a + s.length:Nat)) (by omega)
 have h2:blocksNeeded ((a + s.length:Nat):Int)=((a + s.length - 1) / 32 + 1:Nat):=by
  unfold blocksNeeded
  rw [if_neg (by omega)]
  omega
 unfold writeL at h0 ⊢
 exact wLoop_keeps hf (by omega) hx hst (by unfold wSteps;omega) (by omega) (fun _=>by unfold wSteps;omega) h0
theorem IsFS.write {f:DFS} {i a:Int} {s:Str} (hs:SmF f) (hf:IsFS f) (hi:hasI f i=true) (h0:(writeF f i a s).2=0):IsFS (writeF f i a s).1:=by
 have hl:=hasI_lt hi
 obtain ⟨k,rfl⟩:=Int.eq_ofNat_of_zero_le hl.1
 have hk:k < f.inodes.length:=by rw [hf.ni];omega
 have he:=inodeAt_nat hk
 unfold writeF at h0 ⊢
 split
 ·exact hf
 split
 ·exact hf
 split
 ·exact hf
 rename_i h1 h2 h3
 rw [if_neg h1,if_neg h2,if_neg h3] at h0
 obtain ⟨A,rfl⟩:=Int.eq_ofNat_of_zero_le (Int.not_lt.1 h1)
 simp only [Int.toNat_natCast] at h0 ⊢
 have hs0:0 < s.length:=List.length_pos_iff.2 h3
 have hw:=writeL_keeps hs hf hi hs0 (by omega) h0
 generalize (writeL f k A s).1=n at *
 generalize (writeL f k A s).2.1=D at *
 refine hf.put (by omega) (.inr hw.wv.ok) hw.wv.own hw.wv.once hw.wi.nd hw.wi.secs (fun c h4 h5=>hw.out c h4) (fun c t h4 h5 _=>absurd (hw.sub _ h4) h5) hw.tail (fun e => ?_)
 have:=congrArg DInode.kind hw.rest
 rw [this,he]
 subst e
 exact hf.root f.inodes[0] (List.getElem?_eq_getElem hk)
theorem real_at {l:List Int} {k:Nat} (h:k < l.length) (hb:l[k] ≠ -1) (c:Int) (hc:c ≠ -1):real (l.set k c)=real (l.take k)++c :: real (l.drop (k + 1)):=by
 rw [List.set_eq_take_append_cons_drop,if_pos h,real,List.filter_append,List.filter_cons,if_pos (by simpa using hc)]
 rfl
theorem nodup_not {l:List Int} {j:Nat} {b:Int} (h:(real l).Nodup) (hj:l[j]? = some b) (hb:b ≠ -1):b ∉ l.take j:=by
 obtain ⟨hl,he⟩:=List.getElem?_eq_some_iff.1 hj
 rw [real_split hl (by rw [he];exact hb),he] at h
 intro hm
 exact (List.nodup_append.1 h).2.2 b (mem_real.2 ⟨hm,hb⟩) b (List.mem_cons_self ..) rfl
theorem getD_two {D E:List Str} {k j:Nat} (h:D[k]? = E[j]?):D.getD k []=E.getD j []:=by
 rw [List.getD_eq_getElem?_getD,List.getD_eq_getElem?_getD,h]
structure MK (f:DFS) (i:Nat) (x:DInode) (u:Int) (k:Nat) (n:DInode) (D:List Str):Prop where
 mi:MI f i x u k n D
 once:(allB (f.inodes.set i n)).Nodup
 hole:∀ j:Nat,n.blocks[j]? = some (-1)↔x.blocks[j]? = some (-1)
 got:∀ (j:Nat) (b c:Int),j < k→x.blocks[j]? = some b→b ≠ -1→n.blocks[j]? = some c→D[c.toNat]? = f.data[b.toNat]?
 out:∀ c:Nat,(c:Int) ∉ real n.blocks→(c:Int) ∉ real x.blocks→D[c]? = f.data[c]?
 zero:∀ c:Nat,(c:Int) ∈ real x.blocks→(c:Int) ∉ real n.blocks→D[c]? = some zero32
theorem MK.start {f:DFS} {i:Nat} {x:DInode} {u:Int} (hs:SmF f) (hf:IsFS f) (hi:i < 20) (hx:f.inodes[i]? = some x) (hok:InodeOK x):MK f i x u 0 x f.data:=by
 have hil:i < f.inodes.length:=by rw [hf.ni];exact hi
 have hxe:f.inodes[i]=x:=by rw [List.getElem?_eq_getElem hil] at hx;exact Option.some.inj hx
 have hrg:InR f.inodes:=fun n hn b hb h1=>(hf.blks hn).2.2 b hb h1
 refine ⟨MI.start hs hf.nq hf.ni hi hrg hx hok hf.nd hf.secs,?_,fun _=>Iff.rfl,fun j b c hj=>absurd hj (by omega),fun _ _ _=>rfl,fun c h1 h2=>absurd h1 h2⟩
 rw [←hxe,List.set_getElem_self]
 exact hf.once
theorem MK.skip {f:DFS} {i k:Nat} {x n:DInode} {u:Int} {D:List Str} (h:MK f i x u k n D) (hk:k < x.blocks.length) (hb:n.blocks.getD k 0 = -1):MK f i x u (k + 1) n D:=by
 refine ⟨h.mi.skip hk hb,h.once,h.hole,fun j b c hj h1 h2 h3 => ?_,h.out,h.zero⟩
 by_cases e:j=k
 ·subst e
  exfalso
  have h4:=h.mi.same j (Nat.le_refl _)
  rw [h1] at h4
  rw [List.getD_eq_getElem?_getD,h4] at hb
  exact h2 hb
 ·exact h.got j b c (by omega) h1 h2 h3
theorem MK.step {f:DFS} {i k:Nat} {x n:DInode} {u b:Int} {c:Nat} {D:List Str} (h:MK f i x u k n D) (hx:InodeOK x) (how:OwnOK x) (hne:u≠x.uid) (hi:i < f.inodes.length) (hk:x.blocks[k]? = some b) (hb:b ≠ -1) (hc:c < 56) (ho:ownerOf c=u) (hf:(c:Int) ∉ allB (f.inodes.set i n)):MK f i x u (k + 1) (wN n k c) (mvD D c b):=by
 have hl:=h.mi.w.len
 have hkx:=(List.getElem?_eq_some_iff.1 hk).1
 have hkl:k < n.blocks.length:=by omega
 have hnk:n.blocks[k]? = some b:=by rw [h.mi.same k (Nat.le_refl _)];exact hk
 have hnk2:n.blocks[k]=b:=(List.getElem?_eq_some_iff.1 hnk).2
 have hbm:b ∈ n.blocks:=List.mem_of_getElem? hnk
 have hbx:b ∈ x.blocks:=List.mem_of_getElem? hk
 have hbr:=h.mi.w.blk b hbm hb
 have hbo:=how b hbx hb
 have hc1:(c:Int) ≠ -1:=by omega
 have hcn:(c:Int) ∉ real n.blocks:=fun hm=>hf (by rw [allB_set hi];exact List.mem_append_right _ (List.mem_append_left _ hm))
 have hcb:(c:Int)≠b:=fun e=>hcn (mem_real.2 ⟨e ▸ hbm,hc1⟩)
 have hr1:=real_split hkl (by rw [hnk2];exact hb)
 rw [hnk2] at hr1
 have hr2:=real_at hkl (by rw [hnk2];exact hb) c hc1
 have hbD:b.toNat < D.length:=by rw [h.mi.w.nd];omega
 have hcD:c < D.length:=by rw [h.mi.w.nd];exact hc
 have hmem:∀ d:Int,d ∈ real n.blocks→d=b∨d ∈ real (wN n k c).blocks:=by
  intro d hd
  simp only [wN]
  rw [hr1] at hd
  rw [hr2]
  rcases List.mem_append.1 hd with h1 | h1
  ·exact .inr (List.mem_append_left _ h1)
  ·rcases List.mem_cons.1 h1 with h1 | h1
   ·exact .inl h1
   ·exact .inr (List.mem_append_right _ (List.mem_cons_of_mem _ h1))
 have hat:∀ e:Nat,e≠c→e≠b.toNat→(mvD D c b)[e]? = D[e]?:=fun e h1 h2=>by
  rw [mvD,List.getElem?_set_ne (fun h=>h2 h.symm),Int.toNat_natCast,List.getElem?_set_ne (fun h=>h1 h.symm)]
 refine ⟨h.mi.step hx hi hk hb hc ho hf,?_,fun j => ?_,fun j b' c' hj h1 h2 h3 => ?_,fun d h1 h2 => ?_,fun d h1 h2 => ?_⟩
 ·have h1:=h.once
  rw [allB_set hi] at h1 hf ⊢
  simp only [wN]
  rw [hr2]
  rw [hr1] at h1 hf
  have e:∀ (d:Int) (A B C E:List Int),A++(B++d :: C++E)=(A++B)++d :: (C++E):=by intros;simp
  rw [e] at h1 hf ⊢
  have h2:=List.nodup_cons.1 (List.perm_middle.nodup_iff.1 h1)
  exact nodup_mid h2.2 fun hm=>hf (by
   rcases List.mem_append.1 hm with h3 | h3
   ·exact List.mem_append_left _ h3
   ·exact List.mem_append_right _ (List.mem_cons_of_mem _ h3))
 ·simp only [wN]
  by_cases e:k=j
  ·subst e
   rw [List.getElem?_set_self hkl,hk]
   constructor
   ·intro h1;exact absurd (Option.some.inj h1) hc1
   ·intro h1;exact absurd (Option.some.inj h1) hb
  ·rw [List.getElem?_set_ne e]
   exact h.hole j
 ·simp only [wN] at h3
  by_cases e:k=j
  ·subst e
   rw [List.getElem?_set_self hkl] at h3
   cases h3
   rw [hk] at h1
   cases h1
   rw [mvD,List.getElem?_set_ne (by omega),Int.toNat_natCast,List.getElem?_set_self hcD,←h.mi.data k (Nat.le_refl _) b hk hb,List.getElem?_eq_getElem hbD,List.getD_eq_getElem?_getD,List.getElem?_eq_getElem hbD]
   rfl
  ·rw [List.getElem?_set_ne e] at h3
   have hc'1:c' ≠ -1:=by
    rintro rfl
    rw [(h.hole j).1 h3] at h1
    exact h2 (Option.some.inj h1).symm
   have hc'm:c' ∈ n.blocks:=List.mem_of_getElem? h3
   have hc'r:=h.mi.w.blk c' hc'm hc'1
   have hc't:c' ∈ n.blocks.take k:=List.mem_of_getElem? (i:=j) (by rw [List.getElem?_take,if_pos (by omega)];exact h3)
   have hc'o:=h.mi.own c' hc't hc'1
   rw [hat c'.toNat (fun e2=>hcn (mem_real.2 ⟨by rw [show ((c:Nat):Int)=c' by omega];exact hc'm,hc1⟩)) (fun e2=>hne (by rw [←hc'o,←hbo];congr 1;omega))]
   exact h.got j b' c' (by omega) h1 h2 h3
 ·have h3:d≠c:=by
   rintro rfl
   exact h1 (by simp only [wN];rw [hr2];exact List.mem_append_right _ (List.mem_cons_self ..))
  have h4:(d:Int)≠b:=by
   intro e
   exact h2 (mem_real.2 ⟨e ▸ hbx,by omega⟩)
  rw [hat d h3 (by omega)]
  refine h.out d (fun hm => ?_) h2
  rcases hmem _ hm with h5 | h5
  ·exact h4 h5
  ·exact h1 h5
 ·by_cases h4:(d:Int)=b
  ·have:d=b.toNat:=by omega
   rw [this,mvD,List.getElem?_set_self (by simpa using hbD)]
  ·have h3:d≠c:=by
    rintro rfl
    exact h2 (by simp only [wN];rw [hr2];exact List.mem_append_right _ (List.mem_cons_self ..))
   rw [hat d h3 (by omega)]
   refine h.zero d h1 fun hm => ?_
   rcases hmem _ hm with h5 | h5
   ·exact h4 h5
   ·exact h2 h5
theorem mvLoop_keeps {f:DFS} {i:Nat} {x:DInode} {u:Int} (hx:InodeOK x) (how:OwnOK x) (hu:IsUser u) (hne:u≠x.uid) (hi:i < f.inodes.length):∀ {m k:Nat} {n:DInode} {D:List Str},MK f i x u k n D→k + m=x.blocks.length→(mvLoop f i u m k n D).2.2=0→MK f i x u x.blocks.length (mvLoop f i u m k n D).1 (mvLoop f i u m k n D).2.1
 | 0,k,n,D,h,hk,_=>by
  rw [Nat.add_zero] at hk
  exact hk ▸ h
 | m + 1,k,n,D,h,hk,h0=>by
  have hkx:k < x.blocks.length:=by omega
  rw [mvLoop] at h0 ⊢
  by_cases h1:n.blocks.getD k 0 = -1
  ·rw [if_pos h1] at h0 ⊢
   exact mvLoop_keeps hx how hu hne hi (h.skip hkx h1) (by omega) h0
  rw [if_neg h1] at h0 ⊢
  by_cases h2:(nextB (setI f i n) u).2=0
  ·rw [if_pos h2] at h0 ⊢
   obtain ⟨c,hc,hc56,hco,hcn⟩:=nextB_ok hu h2
   have hs:=h.mi.same k (Nat.le_refl _)
   have hkx2:x.blocks[k]? = some (n.blocks.getD k 0):=by
    rw [List.getD_eq_getElem?_getD,hs,List.getElem?_eq_getElem hkx]
    rfl
   rw [hc] at h0 ⊢
   exact mvLoop_keeps hx how hu hne hi (h.step hx how hne hi hkx2 h1 hc56 hco hcn) (by omega) h0
  ·rw [if_neg h2] at h0
   exact absurd h0 h2
theorem moveL_keeps {f:DFS} {i:Nat} {u:Int} (hs:SmF f) (hf:IsFS f) (hi:hasI f i=true) (hu:IsUser u) (hne:u≠(inodeAt f i).uid) (h0:(moveL f i u).2.2=0):MK f i (inodeAt f i) u (inodeAt f i).blocks.length (moveL f i u).1 (moveL f i u).2.1:=by
 have hl:=hasI_lt hi
 have hok:=hasI_ok hf hi
 have hk:i < f.inodes.length:=by rw [hf.ni];omega
 have hxe:=inodeAt_nat hk
 have hx:f.inodes[i]? = some (inodeAt f i):=by rw [hxe];exact List.getElem?_eq_getElem hk
 unfold moveL at h0 ⊢
 exact mvLoop_keeps hok (hf.own _ (List.mem_of_getElem? hx)) hu hne hk (MK.start hs hf (by omega) hx hok) (by omega) h0
theorem MK.inode {f:DFS} {i:Nat} {x n:DInode} {u:Int} {D:List Str} (h:MK f i x u x.blocks.length n D) (hi:i < f.inodes.length) (hx:InodeOK x) (hu:IsUser u):InodeOK { n with uid:=u }:=by
 have hr:=h.mi.rest
 have hl:=h.mi.w.len
 have hon:(real n.blocks).Nodup:=by
  have h1:=h.once
  rw [allB_set hi] at h1
  exact (List.nodup_append.1 (List.nodup_append.1 h1).2.1).1
 have e:({ n with uid:=u }:DInode)={ x with blocks:=n.blocks,uid:=u }:=by rw [hr]
 rw [e]
 refine ⟨hx.kind,hx.mode,hu,hx.gid,hx.links,hx.size,hx.tick,by simp only;rw [hl];exact hx.blocks,fun j hj b hb => ?_,hx.acl,hx.dflt,hx.file⟩
 simp only at hb ⊢
 by_cases hb1:b = -1
 ·exact .inl hb1
 ·have:=h.mi.w.blk b (List.mem_of_getElem? hb) hb1
  exact .inr ⟨by omega,nodup_not hon hb hb1⟩
theorem IsFS.move {f:DFS} {i u:Int} (hs:SmF f) (hf:IsFS f) (hi:hasI f i=true) (h0:(moveP f i u).2=0):IsFS (moveP f i u).1:=by
 have hl:=hasI_lt hi
 obtain ⟨k,rfl⟩:=Int.eq_ofNat_of_zero_le hl.1
 have hk:k < f.inodes.length:=by rw [hf.ni];omega
 have he:=inodeAt_nat hk
 have hok:=hasI_ok hf hi
 unfold moveP at h0 ⊢
 split
 ·exact hf
 split
 ·exact hf
 rename_i h1 h2
 have hu:=Classical.not_not.1 h1
 rw [if_neg h1,if_neg h2] at h0
 simp only [Int.toNat_natCast] at h0 ⊢
 have hm:=moveL_keeps hs hf hi hu h2 h0
 rw [if_pos h0]
 generalize (moveL f k u).1=n at *
 generalize (moveL f k u).2.1=D at *
 have hin:=hm.inode hk hok hu
 have hr:=hm.mi.rest
 refine hf.put (by omega) (.inr hin) (fun b hb hb1=>hm.mi.own b (by rw [←hm.mi.w.len,List.take_length];exact hb) hb1) ?_ hm.mi.w.nd hm.mi.w.secs (fun c h4 h5=>hm.out c h4 h5) (fun c t h4 h5 h6 => ?_) ?_ (fun e => ?_)
 ·rw [allB_set_congr hk (show real ({ n with uid:=u }:DInode).blocks=real n.blocks from rfl)]
  exact hm.once
 ·rw [hm.zero c h4 h5] at h6
  cases h6
  exact zeroStr_rep
 ·intro c hc hc1
  simp only at hc ⊢
  have hln:=hm.mi.w.len
  rw [List.getLast?_eq_getElem?,hln] at hc
  have hc2:=(List.getElem?_eq_some_iff.1 hc).1
  have hx:(inodeAt f k).blocks[(inodeAt f k).blocks.length - 1]? = some ((inodeAt f k).blocks[(inodeAt f k).blocks.length - 1]'(by omega)):=List.getElem?_eq_getElem _
  generalize hB:((inodeAt f k).blocks[(inodeAt f k).blocks.length - 1]'(by omega))=b at hx
  have hb1:b ≠ -1:=by
   rintro rfl
   rw [(hm.hole _).2 hx] at hc
   exact hc1 (Option.some.inj hc).symm
  rw [getD_two (hm.got _ b c (by omega) hx hb1 hc),hln]
  have hsz:n.size=(inodeAt f k).size:=by rw [hr]
  rw [hsz]
  exact hf.tail _ (by rw [he];exact List.getElem_mem hk) b (by rw [List.getLast?_eq_getElem?];exact hx) hb1
 ·have hkd:n.kind=(inodeAt f k).kind:=by rw [hr]
  simp only
  rw [hkd,he]
  subst e
  exact hf.root f.inodes[0] (List.getElem?_eq_getElem hk)
theorem MK.text {f:DFS} {i:Nat} {x n:DInode} {u:Int} {D:List Str} (h:MK f i x u x.blocks.length n D):textB D n.blocks=textB f.data x.blocks:=by
 have hl:=h.mi.w.len
 have e:n.blocks.map (blkT D)=x.blocks.map (blkT f.data):=by
  apply List.ext_getElem?
  intro j
  rw [List.getElem?_map,List.getElem?_map]
  rcases Nat.lt_or_ge j x.blocks.length with hj | hj
  ·have h1:x.blocks[j]? = some x.blocks[j]:=List.getElem?_eq_getElem hj
   have h2:n.blocks[j]? = some (n.blocks[j]'(by omega)):=List.getElem?_eq_getElem (by omega)
   have hh:=h.hole j
   rw [h1,h2] at hh
   rw [h1,h2]
   simp only [Option.map_some,Option.some.injEq]
   unfold blkT
   by_cases hb:x.blocks[j] = -1
   ·have hc:n.blocks[j]'(by omega) = -1:=Option.some.inj (hh.2 (by rw [hb]))
    rw [if_pos hb,if_pos hc]
   ·have hc:¬ n.blocks[j]'(by omega) = -1:=fun e=>hb (Option.some.inj (hh.1 (by rw [e])))
    rw [if_neg hb,if_neg hc]
    exact getD_two (h.got j _ _ hj h1 hb h2)
  ·rw [List.getElem?_eq_none hj,List.getElem?_eq_none (by omega)]
   rfl
 rw [textB,textB,List.flatMap_def,List.flatMap_def,e]
theorem nameOK_len {s:Str} (h:nameOK s=true):s.length≤12:=by
 simp only [nameOK,Bool.and_eq_true,decide_eq_true_eq] at h
 exact h.1.1.1.2
theorem SmF.of {f:DFS} (h:IsFS f):SmF f:=by
 refine ⟨by rw [h.nq];decide,by rw [h.ni];decide,fun n hn => ?_,by rw [h.nd];decide⟩
 have:=(h.inode n hn).len
 exact ⟨by omega,by omega,by omega⟩
def cutS:Str→Str→List Str
 | cur,[] => [cur]
 | cur,b :: l=>if b=47 then cur :: cutS [] l else cutS (cur ++ [b]) l
def splitS (s:Str):List Str:=cutS [] s
theorem cutS_at {s:Str} {a i:Nat} (hi:i < s.length) (ha:a≤i):cutS ((s.drop a).take (i - a)) (s.drop i)=if s[i]=47 then (s.drop a).take (i - a) :: cutS ((s.drop (i + 1)).take (i + 1 - (i + 1))) (s.drop (i + 1)) else cutS ((s.drop a).take (i + 1 - a)) (s.drop (i + 1)):=by
 rw [List.drop_eq_getElem_cons hi,cutS]
 congr 1
 ·rw [Nat.sub_self,List.take_zero]
 ·congr 1
  have:=cut_snoc (s:=s) (a:=a) (w:=i - a) (by omega)
  rw [show i + 1 - a=i - a + 1 by omega,this]
  congr 2
  congr 1
  omega
theorem cutS_end {s:Str} {a:Nat}:cutS ((s.drop a).take (s.length - a)) (s.drop s.length) = [s.drop a]:=by
 rw [List.drop_length,cutS,List.take_of_length_le (by simp)]
def splitP (p:Str):List Str × Bool:=
 if p = [47] then ([],true) else if p.head? = some 47 then
  (if (splitS p.tail).all nameOK=true∧(splitS p.tail).length≤8 then (splitS p.tail,true) else ([],false)) else ([],false)
theorem splitP_len {p:Str}:(splitP p).1.length≤8:=by
 unfold splitP
 split
 ·simp
 split
 ·split
  ·rename_i h;exact h.2
  ·simp
 ·simp
theorem cutS_len {l:Str}:∀ {cur:Str},(cutS cur l).length≤l.length + 1:=by
 induction l with
 | nil=>intro cur;simp [cutS]
 | cons b l ih=>
  intro cur
  rw [cutS]
  split
  ·have:=ih (cur := [])
   simp only [List.length_cons]
   omega
  ·have:=ih (cur:=cur ++ [b])
   simp only [List.length_cons]
   omega
theorem cutS_mem {l:Str}:∀ {cur x:Str},x ∈ cutS cur l→x.length≤cur.length + l.length:=by
 induction l with
 | nil=>intro cur x h;simp [cutS] at h;subst h;simp
 | cons b l ih=>
  intro cur x h
  rw [cutS] at h
  split at h
  ·rcases List.mem_cons.1 h with rfl | h
   ·omega
   ·have:=ih h
    simp only [List.length_cons,List.length_nil] at this ⊢
    omega
  ·have:=ih h
   simp only [List.length_append,List.length_cons,List.length_nil] at this ⊢
   omega
noncomputable def walkL (f:DFS) (c:DCred):Int→List Str→Int × Int
 | i,[]=>(i,0)
 | i,s :: l=>if isDirI f i=false then (0,5) else if mayI f c i 1=false then (0,2) else if (findE (entriesI f i) s).2=false then (0,3) else walkL f c (findE (entriesI f i) s).1 l
noncomputable def walkE (f:DFS) (w:Int × Int):Int × Int:=if w.2≠0 then (0,w.2) else if hasI f w.1 then (w.1,0) else (0,3)
noncomputable def resolveF (f:DFS) (c:DCred) (p:Str):Int × Int:=
 if (isFS f && isCred c)=false then (0,1) else if (splitP p).2=false then (0,11) else walkE f (walkL f c 0 (splitP p).1)
noncomputable def resolveW (f:DFS) (c:DCred) (w:Int × Int) (s:Str):Int × Str × Int:=
 if w.2≠0 then (0,[],w.2) else if isDirI f w.1=false then (0,[],5) else if mayI f c w.1 1=false then (0,[],2) else (w.1,s,0)
noncomputable def resolveQ (f:DFS) (c:DCred) (p:Str):Int × Str × Int:=
 if (isFS f && isCred c)=false then (0,[],1) else if (splitP p).2=false∨(splitP p).1.length=0 then (0,[],11)
 else resolveW f c (walkE f (walkL f c 0 ((splitP p).1.take ((splitP p).1.length - 1)))) ((splitP p).1.getD ((splitP p).1.length - 1) [])
theorem entryOf_in {c:Str} {e:DEntry} (h:entryOf c=some e):0≤e.inode∧e.inode < 20∧nameOK e.name=true∧recordOf e=c:=by
 unfold entryOf at h
 split at h
 ·rename_i hc
  cases h
  have:=hc.2
  simp only [goodE,Bool.and_eq_true,decide_eq_true_eq] at this
  exact ⟨this.1.1.1.2,this.1.1.2,this.1.2,this.2⟩
 ·cases h
theorem entriesI_in {f:DFS} {d:Int} {e:DEntry} (h:e ∈ entriesI f d):0≤e.inode∧e.inode < 20∧nameOK e.name=true:=by
 unfold entriesI entriesL entriesT at h
 obtain ⟨k,-,hk⟩:=List.mem_filterMap.1 h
 have:=entryOf_in hk
 exact ⟨this.1,this.2.1,this.2.2.1⟩
theorem findE_mem {s:Str}:∀ {l:List DEntry},(findE l s).2=true→∃ e ∈ l,e.name=s∧(findE l s).1=e.inode
 | [],h=>by simp [findE] at h
 | e :: l,h=>by
  rw [findE] at h ⊢
  split
  ·rename_i he
   exact ⟨e,List.mem_cons_self ..,he,rfl⟩
  ·rename_i he
   rw [if_neg he] at h
   obtain ⟨x,h1,h2,h3⟩:=findE_mem h
   exact ⟨x,List.mem_cons_of_mem _ h1,h2,h3⟩
theorem findE_in {f:DFS} {d:Int} {s:Str} (h:(findE (entriesI f d) s).2=true):0≤(findE (entriesI f d) s).1∧(findE (entriesI f d) s).1 < 20:=by
 obtain ⟨e,h1,h2,h3⟩:=findE_mem h
 have:=entriesI_in h1
 rw [h3]
 exact ⟨this.1,this.2.1⟩
theorem findE_none {s:Str}:∀ {l:List DEntry},(findE l s).2=false→(findE l s).1=0
 | [],_=>rfl
 | e :: l,h=>by
  rw [findE] at h ⊢
  split
  ·rename_i he;rw [if_pos he] at h;cases h
  ·rename_i he;rw [if_neg he] at h;exact findE_none h
theorem walkL_in {f:DFS} {c:DCred}:∀ {l:List Str} {i:Int},0≤i∧i < 20→0≤(walkL f c i l).1∧(walkL f c i l).1 < 20
 | [],i,h=>h
 | s :: l,i,h=>by
  rw [walkL]
  split
  ·exact ⟨by decide,by decide⟩
  split
  ·exact ⟨by decide,by decide⟩
  split
  ·exact ⟨by decide,by decide⟩
  ·rename_i h1
   exact walkL_in (findE_in (by simpa using h1))
theorem walkE_in {f:DFS} {w:Int × Int} (h:0≤w.1∧w.1 < 20):0≤(walkE f w).1∧(walkE f w).1 < 20:=by
 unfold walkE
 split
 ·exact ⟨by simp,by simp⟩
 split
 ·exact h
 ·exact ⟨by simp,by simp⟩
theorem walkE_has {f:DFS} {w:Int × Int} (h:(walkE f w).2=0):hasI f (walkE f w).1=true:=by
 unfold walkE at h ⊢
 split
 ·rename_i h1;rw [if_pos h1] at h;exact absurd h h1
 rename_i h1
 rw [if_neg h1] at h
 split
 ·assumption
 ·rename_i h2;rw [if_neg h2] at h;cases h
structure Keeps (f g:DFS):Prop where
 ft:g.tick=f.tick
 fq:g.quotas=f.quotas
 nl:g.inodes.length=f.inodes.length
 at':∀ j,inodeAt g j={ inodeAt f j with size:=(inodeAt g j).size,blocks:=(inodeAt g j).blocks }
theorem Keeps.refl {f:DFS}:Keeps f f:=⟨rfl,rfl,rfl,fun _=>rfl⟩
theorem Keeps.trans {f g h:DFS} (a:Keeps f g) (b:Keeps g h):Keeps f h:=by
 refine ⟨b.ft.trans a.ft,b.fq.trans a.fq,b.nl.trans a.nl,fun j => ?_⟩
 have h1:=b.at' j
 rw [a.at' j] at h1
 exact h1
theorem Keeps.kind {f g:DFS} (a:Keeps f g) (j:Int):(inodeAt g j).kind=(inodeAt f j).kind:=by rw [a.at' j]
theorem Keeps.has {f g:DFS} (a:Keeps f g) (j:Int):hasI g j=hasI f j:=by simp only [hasI,a.kind]
theorem Keeps.dir {f g:DFS} (a:Keeps f g) (j:Int):isDirI g j=isDirI f j:=by simp only [isDirI,a.has,a.kind]
theorem inodeAt_set {f:DFS} {k:Nat} {n:DInode} {D:List Str} (h:k < f.inodes.length) (j:Int):inodeAt ⟨f.tick,f.quotas,f.inodes.set k n,D⟩ j=if j.toNat=k then n else inodeAt f j:=by
 unfold inodeAt
 simp only [List.getD_eq_getElem?_getD]
 split
 ·rename_i e
  rw [e,List.getElem?_set_self h]
  rfl
 ·rename_i e
  rw [List.getElem?_set_ne (fun h=>e h.symm)]
theorem Keeps.set {f:DFS} {k:Nat} {n:DInode} {D:List Str} (h:k < f.inodes.length) (hn:n={ inodeAt f k with size:=n.size,blocks:=n.blocks }):Keeps f ⟨f.tick,f.quotas,f.inodes.set k n,D⟩:=by
 refine ⟨rfl,rfl,by simp,fun j => ?_⟩
 rw [inodeAt_set h]
 split
 ·rename_i e
  have:inodeAt f j=inodeAt f k:=by unfold inodeAt;rw [e];rfl
  rw [this]
  exact hn
 ·rfl
theorem wLoop_rest {f:DFS} {i a:Nat} {s:Str}:∀ {m k:Nat} {n:DInode} {D:List Str},(wLoop f i a s m k n D).1={ n with blocks:=(wLoop f i a s m k n D).1.blocks }
 | 0,k,n,D=>rfl
 | m + 1,k,n,D=>by
  rw [wLoop]
  split
  ·rw [wLoop_rest]
   rfl
  ·rfl
theorem writeF_keeps {f:DFS} {i a:Int} {s:Str} (hi:0≤i∧i.toNat < f.inodes.length):Keeps f (writeF f i a s).1:=by
 obtain ⟨k,rfl⟩:=Int.eq_ofNat_of_zero_le hi.1
 unfold writeF
 split
 ·exact .refl
 split
 ·exact .refl
 split
 ·exact .refl
 rw [Int.toNat_natCast] at hi ⊢
 refine Keeps.set hi.2 ?_
 unfold writeL
 rw [wLoop_rest]
 rfl
theorem resizeS_keeps {f:DFS} {i:Int} {Z:Nat} (hi:0≤i∧i.toNat < f.inodes.length):Keeps f (resizeS f i Z):=by
 obtain ⟨k,rfl⟩:=Int.eq_ofNat_of_zero_le hi.1
 unfold resizeS
 rw [Int.toNat_natCast] at hi ⊢
 exact Keeps.set hi.2 rfl
theorem recordOf_len {e:DEntry} (h:e.name.length≤12):(recordOf e).length=16:=by
 have h1:=putN_len (e.inode + 1) 2
 have h2:=putN_len e.name.length 1
 rw [recordOf,padTo_len,List.length_append,List.length_append]
 omega
noncomputable def addF (f:DFS) (d:Int) (s:Str) (i:Int):DFS × Int:=
 if nameOK s=false then (f,11) else if 0≤i∧i < 20 then (if (findE (entriesI f d) s).2=true then (f,4) else writeF f d (inodeAt f d).size (recordOf ⟨s,i⟩)) else (f,1)
def rmE:List DEntry→Str→List DEntry
 | [],_ => []
 | e :: l,s=>if e.name=s then l else e :: rmE l s
theorem rmE_sub {s:Str}:∀ {l:List DEntry},(rmE l s).Sublist l
 | []=>List.Sublist.refl _
 | e :: l=>by
  rw [rmE]
  split
  ·exact List.sublist_cons_self ..
  ·exact rmE_sub.cons_cons _
def recT (l:List DEntry):Str:=l.flatMap recordOf
theorem recT_len:∀ {l:List DEntry},(∀ e ∈ l,e.name.length≤12)→(recT l).length=16 * l.length
 | [],_=>rfl
 | e :: l,h=>by
  have h1:=recordOf_len (h e (List.mem_cons_self ..))
  have h2:=recT_len (l:=l) fun x hx=>h x (List.mem_cons_of_mem _ hx)
  rw [recT,List.flatMap_cons,List.length_append,h1,←recT,h2,List.length_cons]
  omega
theorem recT_cons {e:DEntry} {l:List DEntry}:recT (e :: l)=recordOf e++recT l:=by simp [recT]
noncomputable def rmT (f:DFS) (d:Int) (s:Str):Str:=recT (rmE (entriesI f d) s)
theorem entriesI_len {f:DFS} {d:Int} (hf:IsFS f) (hi:0≤d∧d < 20):(entriesI f d).length≤16:=by
 have h1:(contentN f.data (inodeAt f d)).length≤256:=by
  obtain ⟨k,rfl⟩:=Int.eq_ofNat_of_zero_le hi.1
  have hk:k < f.inodes.length:=by rw [hf.ni];omega
  rw [inodeAt_nat hk]
  have h:=contentN_size hf (List.getElem_mem hk)
  unfold contentN
  rw [List.length_take]
  omega
 unfold entriesI
 rw [entriesL_full]
 have:=entriesT_len (t:=contentN f.data (inodeAt f d)) (k:=(contentN f.data (inodeAt f d)).length / 16)
 omega
theorem rmT_len {f:DFS} {d:Int} {s:Str} (hf:IsFS f) (hi:0≤d∧d < 20):(rmT f d s).length≤256:=by
 have h1:=entriesI_len hf hi
 have h2:=(rmE_sub (s:=s) (l:=entriesI f d)).length_le
 rw [rmT,recT_len fun e he=>nameOK_len (entriesI_in (rmE_sub.subset he)).2.2]
 omega
noncomputable def removeF (f:DFS) (d:Int) (s:Str):DFS × Int:=
 if (findE (entriesI f d) s).2=false then (f,3) else if (writeF f d 0 (rmT f d s)).2=0 then (resizeS (writeF f d 0 (rmT f d s)).1 d (rmT f d s).length,0) else writeF f d 0 (rmT f d s)
theorem addF_keeps {f:DFS} {d i:Int} {s:Str} (hd:0≤d∧d.toNat < f.inodes.length):Keeps f (addF f d s i).1:=by
 unfold addF
 split
 ·exact .refl
 split
 ·split
  ·exact .refl
  ·exact writeF_keeps hd
 ·exact .refl
theorem IsFS.add {f:DFS} {d i:Int} {s:Str} (hs:SmF f) (hf:IsFS f) (hd:hasI f d=true) (h0:(addF f d s i).2=0):IsFS (addF f d s i).1:=by
 unfold addF at h0 ⊢
 split
 ·exact hf
 rename_i h1
 rw [if_neg h1] at h0
 split
 ·rename_i h2
  rw [if_pos h2] at h0
  split
  ·exact hf
  ·rename_i h3
   rw [if_neg h3] at h0
   exact hf.write hs hd h0
 ·exact hf
theorem removeF_keeps {f:DFS} {d:Int} {s:Str} (hd:0≤d∧d.toNat < f.inodes.length):Keeps f (removeF f d s).1:=by
 have hw:=writeF_keeps (a:=0) (s:=rmT f d s) hd
 unfold removeF
 split
 ·exact .refl
 split
 ·exact hw.trans (resizeS_keeps ⟨hd.1,by rw [hw.nl];exact hd.2⟩)
 ·exact hw
theorem IsFS.remove {f:DFS} {d:Int} {s:Str} (hf:IsFS f) (hd:hasI f d=true) (h0:(removeF f d s).2=0):IsFS (removeF f d s).1:=by
 have hl:=hasI_lt hd
 unfold removeF at h0 ⊢
 split
 ·exact hf
 rename_i h1
 rw [if_neg h1] at h0
 split
 ·rename_i h2
  have hw:=writeF_keeps (f:=f) (i:=d) (a:=0) (s:=rmT f d s) ⟨hl.1,by rw [hf.ni];omega⟩
  exact (hf.write (SmF.of hf) hd h2).resize (by rw [hw.has];exact hd) (rmT_len hf ⟨hl.1,hl.2.1⟩)
 ·rename_i h2
  rw [if_neg h2] at h0
  exact absurd h0 h2
structure Mod (u:Nat→DInode→DInode):Prop where
 blocks:∀ j n,(u j n).blocks=n.blocks
 size:∀ j n,(u j n).size=n.size
 uid:∀ j n,(u j n).uid=n.uid
 kind:∀ j n,(u j n).kind=n.kind
 comm:∀ j n s b,u j { n with size:=s,blocks:=b }={ u j n with size:=s,blocks:=b }
def modI (u:Nat→DInode→DInode) (f:DFS):DFS:=⟨f.tick,f.quotas,f.inodes.mapIdx u,f.data⟩
theorem mapIdx_set {u:Nat→DInode→DInode} {ns:List DInode} {i:Nat} {n:DInode}:(ns.mapIdx u).set i (u i n)=(ns.set i n).mapIdx u:=by
 apply List.ext_getElem?
 intro j
 rw [List.getElem?_mapIdx,List.getElem?_set,List.getElem?_set]
 by_cases h:i=j
 ·subst h
  rw [if_pos rfl,if_pos rfl]
  by_cases hl:i < ns.length
  ·rw [if_pos (by simpa using hl),if_pos hl];rfl
  ·rw [if_neg (by simpa using hl),if_neg hl];rfl
 ·rw [if_neg h,if_neg h,List.getElem?_mapIdx]
theorem Mod.allB {u:Nat→DInode→DInode} (h:Mod u) {ns:List DInode}:Go.Fw.allB (ns.mapIdx u)=Go.Fw.allB ns:=by
 unfold Go.Fw.allB
 rw [List.flatMap_def,List.flatMap_def]
 congr 1
 apply List.ext_getElem?
 intro j
 rw [List.getElem?_map,List.getElem?_map,List.getElem?_mapIdx]
 cases ns[j]? with
 | none=>rfl
 | some n=>simp [h.blocks]
theorem modI_at {u:Nat→DInode→DInode} {f:DFS} {i:Int} (h:i.toNat < f.inodes.length):inodeAt (modI u f) i=u i.toNat (inodeAt f i):=by
 unfold inodeAt modI
 simp [h]
theorem Mod.sized {u:Nat→DInode→DInode} (h:Mod u) {j:Nat} {n:DInode} {e:Int}:Go.Fw.sized (u j n) e=u j (Go.Fw.sized n e):=by
 unfold Go.Fw.sized
 rw [h.size,h.blocks]
 exact (h.comm ..).symm
theorem Mod.wN {u:Nat→DInode→DInode} (h:Mod u) {j k:Nat} {n:DInode} {b:Int}:Go.Fw.wN (u j n) k b=u j (Go.Fw.wN n k b):=by
 have h1:=h.comm j n n.size (n.blocks.set k b)
 have h2:=h.size j n
 have h3:=h.blocks j n
 unfold Go.Fw.wN
 rw [h3]
 refine Eq.trans ?_ h1.symm
 generalize u j n=m at *
 cases m
 simp only at h2
 subst h2
 rfl
theorem Mod.wBlk {u:Nat→DInode→DInode} (h:Mod u) {f:DFS} {i k:Nat} {n:DInode}:Go.Fw.wBlk (modI u f) i (u i n) k=Go.Fw.wBlk f i n k:=by
 unfold Go.Fw.wBlk
 rw [h.blocks,h.uid]
 have:nextB (setI (modI u f) i (u i n)) n.uid=nextB (setI f i n) n.uid:=nextB_allB rfl (by
  simp only [setI,modI]
  rw [mapIdx_set,h.allB])
 rw [this]
theorem Mod.wLoop {u:Nat→DInode→DInode} (h:Mod u) {f:DFS} {i a:Nat} {s:Str}:∀ {m k:Nat} {n:DInode} {D:List Str},Go.Fw.wLoop (modI u f) i a s m k (u i n) D=(u i (Go.Fw.wLoop f i a s m k n D).1,(Go.Fw.wLoop f i a s m k n D).2)
 | 0,k,n,D=>rfl
 | m + 1,k,n,D=>by
  rw [Go.Fw.wLoop,Go.Fw.wLoop,h.wBlk]
  split
  ·rw [h.wN,h.wLoop]
  ·rfl
theorem Mod.writeF {u:Nat→DInode→DInode} (h:Mod u) {f:DFS} {i a:Int} {s:Str} (hi:i.toNat < f.inodes.length):Go.Fw.writeF (modI u f) i a s=(modI u (Go.Fw.writeF f i a s).1,(Go.Fw.writeF f i a s).2):=by
 unfold Go.Fw.writeF
 split
 ·rfl
 split
 ·rfl
 split
 ·rfl
 have hw:writeL (modI u f) i.toNat a.toNat s=(u i.toNat (writeL f i.toNat a.toNat s).1,(writeL f i.toNat a.toNat s).2):=by
  unfold writeL
  rw [modI_at (by rw [Int.toNat_natCast];exact hi),Int.toNat_natCast,h.sized]
  exact h.wLoop
 rw [hw]
 simp only [modI]
 rw [mapIdx_set]
theorem Mod.content {u:Nat→DInode→DInode} (h:Mod u) {f:DFS} {i:Int} (hi:i.toNat < f.inodes.length):contentN (modI u f).data (inodeAt (modI u f) i)=contentN f.data (inodeAt f i):=by
 rw [modI_at hi]
 unfold contentN
 rw [h.blocks,h.size]
 rfl
theorem Mod.entries {u:Nat→DInode→DInode} (h:Mod u) {f:DFS} {i:Int} (hi:i.toNat < f.inodes.length):entriesI (modI u f) i=entriesI f i:=by
 unfold entriesI
 rw [h.content hi]
theorem Mod.addF {u:Nat→DInode→DInode} (h:Mod u) {f:DFS} {d i:Int} {s:Str} (hd:d.toNat < f.inodes.length):Go.Fw.addF (modI u f) d s i=(modI u (Go.Fw.addF f d s i).1,(Go.Fw.addF f d s i).2):=by
 unfold Go.Fw.addF
 rw [h.entries hd,modI_at hd,h.size]
 split
 ·rfl
 split
 ·split
  ·rfl
  ·exact h.writeF hd
 ·rfl
theorem Mod.has {u:Nat→DInode→DInode} (h:Mod u) {f:DFS} (hn:f.inodes.length=20) (i:Int):hasI (modI u f) i=hasI f i:=by
 unfold hasI
 by_cases hi:0≤i∧i < 20
 ·rw [modI_at (by omega),h.kind]
 ·have:decide (0≤i)=false∨decide (i < 20)=false:=by
   simp only [decide_eq_false_iff_not]
   omega
  rcases this with h1 | h1<;>simp [h1]
theorem IsFS.mod {u:Nat→DInode→DInode} (h:Mod u) {f:DFS} (hf:IsFS f) (hu:∀ (j:Nat) (n:DInode),f.inodes[j]? = some n→IsInode n→IsInode (u j n)):IsFS (modI u f):=by
 have hm:∀ n ∈ f.inodes.mapIdx u,∃ j m,f.inodes[j]? = some m∧n=u j m:=fun n hn=>by
  obtain ⟨j,hj,e⟩:=List.mem_iff_getElem.1 hn
  have hj2:j < f.inodes.length:=by simpa using hj
  exact ⟨j,f.inodes[j],List.getElem?_eq_getElem hj2,by rw [←e,List.getElem_mapIdx]⟩
 refine ⟨hf.tick,hf.nq,by simpa [modI] using hf.ni,hf.nd,hf.quota,hf.secs,fun n hn => ?_,fun n hn => ?_,?_,fun n hn => ?_,fun k s hk hs => ?_,fun n hn => ?_⟩
 ·obtain ⟨j,m,h1,rfl⟩:=hm n hn
  exact hu j m h1 (hf.inode m (List.mem_of_getElem? h1))
 ·obtain ⟨j,m,h1,rfl⟩:=hm n hn
  intro b hb hb1
  rw [h.blocks] at hb
  rw [h.uid]
  exact hf.own m (List.mem_of_getElem? h1) b hb hb1
 ·show (allB (f.inodes.mapIdx u)).Nodup
  rw [h.allB]
  exact hf.once
 ·obtain ⟨j,m,h1,rfl⟩:=hm n hn
  intro b hb hb1
  rw [h.blocks] at hb ⊢
  rw [h.size]
  exact hf.tail m (List.mem_of_getElem? h1) b hb hb1
 ·refine hf.rest k s hk ?_
  have h1:(k:Int) ∉ allB (f.inodes.mapIdx u):=hs
  rwa [h.allB] at h1
 ·have h1:(f.inodes.mapIdx u)[0]? = some n:=hn
  rw [List.getElem?_mapIdx] at h1
  cases h2:f.inodes[0]? with
  | none=>rw [h2] at h1;cases h1
  | some m=>
   rw [h2] at h1
   cases h1
   rw [h.kind]
   exact hf.root m h2
def setN (f:DFS) (i:Int) (n:DInode):DFS:=⟨f.tick,f.quotas,f.inodes.set i.toNat n,f.data⟩
def touchF (f:DFS) (i:Int):DFS:=setN f i { inodeAt f i with tick:=f.tick }
def unlinkS (f:DFS) (i:Int):DFS:=setN f i { inodeAt f i with links:=max ((inodeAt f i).links - 1) 0 }
def freeB (f:DFS) (i:Int) (busy:List Int):Bool:=decide ((inodeAt f i).links=0) && !decide (i ∈ busy) && !decide (i=0)
noncomputable def unlinkF (f:DFS) (i:Int) (busy:List Int):DFS:=if freeB (unlinkS f i) i busy=true then freeF (unlinkS f i) i else unlinkS f i
noncomputable def dropF (f:DFS) (d:Int) (s:Str) (i:Int) (busy:List Int):DFS × Int:=
 if (removeF f d s).2=0 then (unlinkF (touchF (removeF f d s).1 d) i busy,0) else removeF f d s
def modAt (i:Nat) (v:DInode→DInode) (j:Nat) (n:DInode):DInode:=if j=i then v n else n
theorem setN_mod {f:DFS} {i:Int} {v:DInode→DInode} (hi:i.toNat < f.inodes.length):setN f i (v (inodeAt f i))=modI (modAt i.toNat v) f:=by
 unfold setN modI
 congr 1
 apply List.ext_getElem?
 intro j
 rw [List.getElem?_mapIdx]
 by_cases h:i.toNat=j
 ·subst h
  rw [List.getElem?_set_self hi,List.getElem?_eq_getElem hi]
  simp [modAt,inodeAt,hi]
 ·rw [List.getElem?_set_ne h]
  cases f.inodes[j]? with
  | none=>rfl
  | some n=>simp [modAt,show ¬ j=i.toNat from fun e=>h e.symm]
theorem modAt_mod {i:Nat} {v:DInode→DInode} (h1:∀ n,(v n).blocks=n.blocks) (h2:∀ n,(v n).size=n.size) (h3:∀ n,(v n).uid=n.uid) (h4:∀ n,(v n).kind=n.kind) (h5:∀ n s b,v { n with size:=s,blocks:=b }={ v n with size:=s,blocks:=b }):Mod (modAt i v):=by
 refine ⟨fun j n => ?_,fun j n => ?_,fun j n => ?_,fun j n => ?_,fun j n s b => ?_⟩<;>unfold modAt<;>split<;>first | rfl | exact h1 n | exact h2 n | exact h3 n | exact h4 n | exact h5 n s b
theorem IsFS.setN {f:DFS} {i:Int} {v:DInode→DInode} (hf:IsFS f) (hi:0≤i∧i < 20) (hm:Mod (modAt i.toNat v)) (hv:IsInode (inodeAt f i)→IsInode (v (inodeAt f i))):IsFS (setN f i (v (inodeAt f i))):=by
 have hil:i.toNat < f.inodes.length:=by rw [hf.ni];omega
 rw [setN_mod hil]
 refine hf.mod hm fun j n hj hn => ?_
 unfold modAt
 split
 ·rename_i e
  subst e
  have:n=inodeAt f i:=by
   rw [List.getElem?_eq_getElem hil] at hj
   simp [inodeAt,hil] at hj ⊢
   exact hj.symm
  rw [this] at hn ⊢
  exact hv hn
 ·exact hn
theorem touch_mod {i:Nat} {t:Int}:Mod (modAt i (fun n=>{ n with tick:=t })):=modAt_mod (fun _=>rfl) (fun _=>rfl) (fun _=>rfl) (fun _=>rfl) (fun _ _ _=>rfl)
theorem links_mod {i:Nat} {l:Int→Int}:Mod (modAt i (fun n=>{ n with links:=l n.links })):=modAt_mod (fun _=>rfl) (fun _=>rfl) (fun _=>rfl) (fun _=>rfl) (fun _ _ _=>rfl)
theorem IsFS.touch {f:DFS} {i:Int} (hf:IsFS f) (hi:hasI f i=true):IsFS (touchF f i):=by
 have hl:=hasI_lt hi
 refine hf.setN (v:=fun n=>{ n with tick:=f.tick }) ⟨hl.1,hl.2.1⟩ touch_mod fun _ => ?_
 have h:=hasI_ok hf hi
 exact .inr ⟨h.kind,h.mode,h.uid,h.gid,h.links,h.size,hf.tick,h.blocks,h.blk,h.acl,h.dflt,h.file⟩
theorem IsFS.unlinkS {f:DFS} {i:Int} (hf:IsFS f) (hi:hasI f i=true):IsFS (Go.Fw.unlinkS f i):=by
 have hl:=hasI_lt hi
 refine hf.setN (v:=fun n=>{ n with links:=max (n.links - 1) 0 }) ⟨hl.1,hl.2.1⟩ (links_mod (l:=fun l=>max (l - 1) 0)) fun _ => ?_
 have h:=hasI_ok hf hi
 have h1:=h.links
 exact .inr ⟨h.kind,h.mode,h.uid,h.gid,by simp only;omega,h.size,h.tick,h.blocks,h.blk,h.acl,h.dflt,h.file⟩
theorem setN_at {f:DFS} {i:Int} {n:DInode} (hi:i.toNat < f.inodes.length) (j:Int):inodeAt (setN f i n) j=if j.toNat=i.toNat then n else inodeAt f j:=inodeAt_set hi j
theorem touch_has {f:DFS} {i:Int} (hi:i.toNat < f.inodes.length) (j:Int):hasI (touchF f i) j=hasI f j:=by
 unfold hasI touchF
 rw [setN_at hi]
 split
 ·rename_i e
  have:inodeAt f j=inodeAt f i:=by unfold inodeAt;rw [e]
  simp [this]
 ·rfl
theorem IsFS.unlink {f:DFS} {i:Int} {busy:List Int} (hf:IsFS f) (hi:hasI f i=true):IsFS (unlinkF f i busy):=by
 have hl:=hasI_lt hi
 unfold unlinkF
 split
 ·rename_i h
  unfold freeB at h
  simp only [Bool.and_eq_true,Bool.not_eq_true',decide_eq_false_iff_not] at h
  exact (hf.unlinkS hi).free ⟨hl.1,hl.2.1⟩ h.2
 ·exact hf.unlinkS hi
theorem IsFS.drop {f:DFS} {d i:Int} {s:Str} {busy:List Int} (hf:IsFS f) (hd:hasI f d=true) (hi:hasI f i=true) (h0:(dropF f d s i busy).2=0):IsFS (dropF f d s i busy).1:=by
 have hl:=hasI_lt hd
 have hk:=removeF_keeps (f:=f) (d:=d) (s:=s) ⟨hl.1,by rw [hf.ni];omega⟩
 unfold dropF at h0 ⊢
 split
 ·rename_i h
  have hr:=hf.remove hd h
  have hn:=hr.ni
  have ht:=hr.touch (i:=d) (by rw [hk.has];exact hd)
  exact ht.unlink (by rw [touch_has (by rw [hn];omega),hk.has];exact hi)
 ·rename_i h
  rw [if_neg h] at h0
  exact absurd h0 h
end Go.Fw
