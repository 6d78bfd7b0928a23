/- Plain facts: single bits of numbers. -/
import Derived.Test.YtombegncnofnbaaM11
import Derived.Test.YtombegncnofnbaaMC
namespace Go.Fw
set_option linter.unusedVariables false
theorem nat_and_pow (n k:Nat):n &&& 2 ^ k=2 ^ k * (n / 2 ^ k % 2):=by
 apply Nat.eq_of_testBit_eq
 intro i
 rw [Nat.testBit_and,Nat.testBit_two_pow,Nat.testBit_two_pow_mul]
 by_cases h:k=i
 ·subst h
  simp [Nat.testBit,Nat.shiftRight_eq_div_pow]
 ·have h2:(n / 2 ^ k % 2).testBit (i - k)=false∨¬ i ≥ k:=by
   by_cases h3:i ≥ k
   ·left
    have h4:i - k≠0:=by omega
    obtain ⟨j,hj⟩:=Nat.exists_eq_succ_of_ne_zero h4
    rw [hj]
    rcases Nat.mod_two_eq_zero_or_one (n / 2 ^ k) with h1 | h1<;>simp [h1,Nat.testBit_succ]
   ·exact .inr h3
  rcases h2 with h2 | h2<;>simp [h,h2]
theorem and_split64 (x y:BitVec 64):(x &&& y).toNat + (x &&& ~~~y).toNat=x.toNat:=by
 have h:(x &&& y) + (x &&& ~~~y)=x:=by
  have h0:(x &&& y) &&& (x &&& ~~~y)=0#64:=by
   ext i hi
   simp only [BitVec.getElem_and,BitVec.getElem_not,BitVec.getElem_zero]
   cases x[i]<;>cases y[i]<;>rfl
  rw [BitVec.add_eq_or_of_and_eq_zero _ _ h0]
  ext i hi
  simp only [BitVec.getElem_or,BitVec.getElem_and,BitVec.getElem_not]
  cases x[i]<;>cases y[i]<;>rfl
 have h1:=congrArg BitVec.toNat h
 rw [BitVec.toNat_add] at h1
 have h2:(x &&& y).toNat≤x.toNat:=by rw [BitVec.toNat_and];exact Nat.and_le_left
 have h3:=(x &&& ~~~y).isLt
 have h4:=x.isLt
 have h5:=(x &&& y).isLt
 omega
theorem ofInt_toNat {m:Int} (h1 : -9223372036854775808≤m) (h2:m < 9223372036854775808):(BitVec.ofInt 64 m).toNat=if 0≤m then m.toNat else (m + 18446744073709551616).toNat:=by
 rw [BitVec.toNat_ofInt]
 split<;>omega
theorem wrapN {n:Nat} (h:n < 18446744073709551616):IntKind.wrap .i64 (n:Int)=if n < 9223372036854775808 then (n:Int) else (n:Int) - 18446744073709551616:=by
 simp only [IntKind.wrap,IntKind.signed,IntKind.bits]
 by_cases h':n < 9223372036854775808
 ·rw [if_pos h']
  simp
  omega
 ·rw [if_neg h']
  simp
  omega
theorem iAnd_pow {m:Int} {k:Nat} (hk:k < 63) (h1 : -9223372036854775808≤m) (h2:m < 9223372036854775808):iAnd m ((2 ^ k:Nat):Int)=((2 ^ k * ((BitVec.ofInt 64 m).toNat / 2 ^ k % 2):Nat):Int):=by
 have hp:2 ^ k < 2 ^ 63:=Nat.pow_lt_pow_right (by omega) hk
 unfold iAnd
 rw [BitVec.toNat_and,BitVec.ofInt_natCast,BitVec.toNat_ofNat,Nat.mod_eq_of_lt (by omega),nat_and_pow]
 have:2 ^ k * ((BitVec.ofInt 64 m).toNat / 2 ^ k % 2)≤2 ^ k * 1:=Nat.mul_le_mul_left _ (by omega)
 rw [wrapN (by omega),if_pos (by omega)]
theorem iAnd_512 {m:Int} (h1 : -9223372036854775808≤m) (h2:m < 9223372036854775808):iAnd m 512=512 * (m / 512 % 2):=by
 have h:=iAnd_pow (k:=9) (by decide) h1 h2
 rw [ofInt_toNat h1 h2] at h
 rw [show (512:Int)=((2 ^ 9:Nat):Int) from rfl,h]
 split<;>omega
theorem iAndNot_1024 {m:Int} (h1 : -9223372036854775808≤m) (h2:m < 9223372036854775808):iAndNot m 1024=m - 1024 * (m / 1024 % 2):=by
 have hs:=and_split64 (BitVec.ofInt 64 m) (BitVec.ofInt 64 1024)
 have ha:(BitVec.ofInt 64 m &&& BitVec.ofInt 64 1024).toNat=2 ^ 10 * ((BitVec.ofInt 64 m).toNat / 2 ^ 10 % 2):=by
  rw [BitVec.toNat_and,show (BitVec.ofInt 64 1024).toNat=2 ^ 10 from by decide,nat_and_pow]
 unfold iAndNot
 have hx:=ofInt_toNat h1 h2
 have hlt:=(BitVec.ofInt 64 m).isLt
 generalize (BitVec.ofInt 64 m &&& ~~~BitVec.ofInt 64 1024).toNat=b at *
 rw [wrapN (by omega)]
 split at hx<;>split<;>omega
theorem mode_clear {m:Int} (h1 : -9223372036854775808≤m) (h2:m < 9223372036854775808):(IsMode (iAndNot m 1024)↔IsMode m)∧(iAnd (iAndNot m 1024) 512=0↔iAnd m 512=0):=by
 have e:=iAndNot_1024 h1 h2
 constructor
 ·rw [e]
  show (0≤_∧_≤2047)↔(0≤m∧m≤2047)
  omega
 ·rw [iAnd_512 (by omega) (by omega),iAnd_512 h1 h2,e]
  omega
theorem isInode_mode {n:DInode} {m:Int} (h1 : -9223372036854775808≤m) (h2:m < 9223372036854775808) (hk:¬ n.kind=0):isInode { n with mode:=iAndNot m 1024 }=isInode { n with mode:=m }:=by
 have h:=mode_clear h1 h2
 rw [Bool.eq_iff_iff,tr_iff,tr_iff,isInode_ok (n:={ n with mode:=iAndNot m 1024 }) hk,isInode_ok (n:={ n with mode:=m }) hk]
 constructor
 ·intro H
  exact ⟨H.kind,h.1.1 H.mode,H.uid,H.gid,H.links,H.size,H.tick,H.blocks,H.blk,H.acl,H.dflt,H.file.imp id fun h3=>⟨h3.1,h.2.1 h3.2⟩⟩
 ·intro H
  exact ⟨H.kind,h.1.2 H.mode,H.uid,H.gid,H.links,H.size,H.tick,H.blocks,H.blk,H.acl,H.dflt,H.file.imp id fun h3=>⟨h3.1,h.2.2 h3.2⟩⟩
def usedN (f:DFS) (lo n:Nat):Nat:=((List.range n).filter (fun j=>decide ((inodeAt f ((lo + j:Nat):Int)).kind≠0))).length
theorem usedN_succ {f:DFS} {lo n:Nat}:usedN f lo (n + 1)=usedN f lo n + if (inodeAt f ((lo + n:Nat):Int)).kind=0 then 0 else 1:=by
 simp only [usedN,List.range_succ,List.filter_append,List.length_append]
 by_cases h:(inodeAt f ((lo + n:Nat):Int)).kind=0
 ·rw [if_pos h,List.filter_cons,if_neg (by simpa using h)]
  rfl
 ·rw [if_neg h,List.filter_cons,if_pos (by simpa using h)]
  rfl
theorem usedN_le {f:DFS} {lo n:Nat}:usedN f lo n≤n:=by
 have:=List.length_filter_le (fun j=>decide ((inodeAt f ((lo + j:Nat):Int)).kind≠0)) (List.range n)
 simpa [usedN] using this
def nextN (f:DFS):Nat→Nat→Int × Int
 | _,0=>(0,8)
 | lo,n + 1=>if (inodeAt f (lo:Int)).kind=0 then (lo,0) else nextN f (lo + 1) n
def nextI (f:DFS) (u:Int):Int × Int:=if (quotaAt f u).inodes≤usedN f (5 * u.toNat) 5 then (0,7) else nextN f (5 * u.toNat) 5
theorem nextN_ok {f:DFS}:∀ {n lo:Nat},(nextN f lo n).2=0→∃ k:Nat,(nextN f lo n).1=k∧lo≤k∧k < lo + n∧(inodeAt f (k:Int)).kind=0
 | 0,lo,h=>by simp [nextN] at h
 | n + 1,lo,h=>by
  rw [nextN] at h ⊢
  split
  ·rename_i hm
   exact ⟨lo,rfl,Nat.le_refl _,by omega,hm⟩
  ·rename_i hm
   rw [if_neg hm] at h
   obtain ⟨k,h1,h2,h3,h4⟩:=nextN_ok h
   exact ⟨k,h1,by omega,by omega,h4⟩
theorem nextI_ok {f:DFS} {u:Int} (hu:IsUser u) (h:(nextI f u).2=0):∃ k:Nat,(nextI f u).1=k∧k < 20∧(inodeAt f (k:Int)).kind=0:=by
 unfold nextI at h ⊢
 split
 ·rename_i hq
  rw [if_pos hq] at h
  cases h
 ·rename_i hq
  rw [if_neg hq] at h
  obtain ⟨k,h1,h2,h3,h4⟩:=nextN_ok h
  have:=hu.1
  have:=hu.2
  exact ⟨k,h1,by omega,h4⟩
def gidN (f:DFS) (c:DCred) (d:Int):Int:=if iAnd (inodeAt f d).mode 1024=0 then c.gid else (inodeAt f d).gid
def newN (f:DFS) (c:DCred) (d kind mode:Int):DInode:=
 { kind:=kind,mode:=if kind=2 then iOr mode (iAnd (inodeAt f d).mode 1024) else mode,uid:=c.uid,gid:=gidN f c d,links:=1,size:=0,tick:=f.tick,blocks := [],acl:=(inodeAt f d).dflt,dflt:=if kind=2 then (inodeAt f d).dflt else [] }
noncomputable def makeF (f:DFS) (c:DCred) (d:Int) (s:Str) (kind mode:Int):DFS × Int × Int:=
 if (findE (entriesI f d) s).2=true then (f,0,4) else if mayI f c d 3=false then (f,0,2) else if (nextI f c.uid).2≠0 then (f,0,(nextI f c.uid).2)
 else if (addF (setN f (nextI f c.uid).1 (newN f c d kind mode)) d s (nextI f c.uid).1).2=0 then (touchF (addF (setN f (nextI f c.uid).1 (newN f c d kind mode)) d s (nextI f c.uid).1).1 d,(nextI f c.uid).1,0)
 else (f,0,(addF (setN f (nextI f c.uid).1 (newN f c d kind mode)) d s (nextI f c.uid).1).2)
@[simp] theorem wrap_or {a b:Int}:IntKind.wrap .i64 (((a % 2 ^ IntKind.bits .i64).toNat ||| (b % 2 ^ IntKind.bits .i64).toNat:Nat))=iOr a b:=by
 unfold iOr
 simp [BitVec.toNat_or,BitVec.toNat_ofInt,IntKind.bits]
theorem iOr_lt {a b:Int} {k:Nat} (hk:k < 63) (ha:0≤a∧a < 2 ^ k) (hb:0≤b∧b < 2 ^ k):0≤iOr a b∧iOr a b < 2 ^ k:=by
 obtain ⟨x,rfl⟩:=Int.eq_ofNat_of_zero_le ha.1
 obtain ⟨y,rfl⟩:=Int.eq_ofNat_of_zero_le hb.1
 have hx:x < 2 ^ k:=by have:=ha.2;exact_mod_cast this
 have hy:y < 2 ^ k:=by have:=hb.2;exact_mod_cast this
 have hp:2 ^ k < 2 ^ 63:=Nat.pow_lt_pow_right (by omega) hk
 unfold iOr
 rw [BitVec.toNat_or,BitVec.ofInt_natCast,BitVec.ofInt_natCast,BitVec.toNat_ofNat,BitVec.toNat_ofNat,Nat.mod_eq_of_lt (by omega),Nat.mod_eq_of_lt (by omega)]
 have h:=Nat.or_lt_two_pow hx hy
 rw [wrapN (by omega),if_pos (by omega)]
 refine ⟨by omega,?_⟩
 exact_mod_cast h
theorem iAnd_1024 {m:Int} (h1 : -9223372036854775808≤m) (h2:m < 9223372036854775808):iAnd m 1024=1024 * (m / 1024 % 2):=by
 have h:=iAnd_pow (k:=10) (by decide) h1 h2
 rw [ofInt_toNat h1 h2] at h
 rw [show (1024:Int)=((2 ^ 10:Nat):Int) from rfl,h]
 split<;>omega
theorem newN_ok {f:DFS} {c:DCred} {d kind mode:Int} (hf:IsFS f) (hc:IsCred c) (hd:hasI f d=true) (hk:kind=1∨kind=2) (hm:IsMode mode) (h5:kind=1→iAnd mode 512=0):InodeOK (newN f c d kind mode):=by
 have hi:=hasI_ok hf hd
 have hma:=hi.mode
 refine ⟨hk,?_,hc.2.1,?_,by simp [newN],by simp [newN],hf.tick,?_,?_,hi.dflt,?_,?_⟩
 ·show IsMode (if kind=2 then iOr mode (iAnd (inodeAt f d).mode 1024) else mode)
  split
  ·have h1:=iAnd_1024 (m:=(inodeAt f d).mode) (by have:=hma.1;omega) (by have:=hma.2;omega)
   have:=iOr_lt (a:=mode) (b:=iAnd (inodeAt f d).mode 1024) (k:=11) (by decide) ⟨hm.1,by have:=hm.2;omega⟩ (by rw [h1];omega)
   exact ⟨this.1,by have:=this.2;omega⟩
  ·exact hm
 ·show IsUser (gidN f c d)
  unfold gidN
  split
  ·exact hc.2.2
  ·exact hi.gid
 ·simp [newN,blocksNeeded]
 ·simp [newN]
 ·show IsAcl (if kind=2 then (inodeAt f d).dflt else [])
  split
  ·exact hi.dflt
  ·exact tr_iff.1 (isAcl_nil (l := []) rfl)
 ·rcases hk with rfl | rfl
  ·right
   simp [newN,h5]
  ·left;rfl
theorem allB_keep {ns:List DInode} {i:Nat} {n:DInode} (h:∀ m,ns[i]? = some m→n.blocks=m.blocks):allB (ns.set i n)=allB ns:=by
 unfold allB
 rw [List.flatMap_def,List.flatMap_def]
 congr 1
 apply List.ext_getElem?
 intro j
 rw [List.getElem?_map,List.getElem?_map,List.getElem?_set]
 split
 ·rename_i e
  subst e
  split
  ·rename_i hl
   rw [List.getElem?_eq_getElem hl]
   simp [h _ (List.getElem?_eq_getElem hl)]
  ·rename_i hl
   rw [List.getElem?_eq_none (by omega)]
 ·rfl
theorem IsFS.fresh {f:DFS} {i:Int} {n:DInode} (hf:IsFS f) (hi:0≤i∧i < 20) (hk:(inodeAt f i).kind=0) (hn:InodeOK n) (hb:n.blocks = []):IsFS (Go.Fw.setN f i n):=by
 obtain ⟨k,rfl⟩:=Int.eq_ofNat_of_zero_le hi.1
 have hil:k < f.inodes.length:=by rw [hf.ni];omega
 rw [inodeAt_nat hil] at hk
 have hz:=(isInode_free hk).1 (hf.inode _ (List.getElem_mem hil))
 have hall:allB (f.inodes.set k n)=allB f.inodes:=allB_keep fun m hm=>by
  rw [List.getElem?_eq_getElem hil] at hm
  cases hm
  rw [hz,hb]
  rfl
 have hm:∀ m ∈ f.inodes.set k n,m=n∨m ∈ f.inodes:=fun m hm=>(List.mem_or_eq_of_mem_set hm).symm
 unfold Go.Fw.setN
 rw [Int.toNat_natCast]
 refine ⟨hf.tick,hf.nq,by simpa using hf.ni,hf.nd,hf.quota,hf.secs,fun m h => ?_,fun m h => ?_,?_,fun m h => ?_,fun j s hj hs => ?_,fun m h => ?_⟩
 ·rcases hm m h with rfl | h1
  ·exact .inr hn
  ·exact hf.inode m h1
 ·rcases hm m h with rfl | h1
  ·intro b hb1
   rw [hb] at hb1
   cases hb1
  ·exact hf.own m h1
 ·show (allB (f.inodes.set k n)).Nodup
  rw [hall]
  exact hf.once
 ·rcases hm m h with rfl | h1
  ·intro b hb1 hb2
   rw [hb] at hb1
   simp at hb1
  ·exact hf.tail m h1
 ·refine hf.rest j s hj ?_
  have h1:(j:Int) ∉ allB (f.inodes.set k n):=hs
  rwa [hall] at h1
 ·by_cases h0:k=0
  ·subst h0
   have h1:=hf.root _ (List.getElem?_eq_getElem hil)
   rw [hk] at h1
   cases h1
  ·have h1:(f.inodes.set k n)[0]? = some m:=h
   rw [List.getElem?_set_ne h0] at h1
   exact hf.root m h1
theorem touch_modI {f:DFS} {i:Int} (hi:i.toNat < f.inodes.length):touchF f i=modI (modAt i.toNat (fun n=>{ n with tick:=f.tick })) f:=setN_mod (v:=fun n=>{ n with tick:=f.tick }) hi
theorem modI_len {u:Nat→DInode→DInode} {f:DFS}:(modI u f).inodes.length=f.inodes.length:=by simp [modI]
theorem touch_len {f:DFS} {d:Int}:(touchF f d).inodes.length=f.inodes.length:=by simp [touchF,setN]
theorem touch_add {f:DFS} {d e i:Int} {s:Str} (he:e.toNat < f.inodes.length) (hd:0≤d∧d.toNat < f.inodes.length):addF (touchF f e) d s i=(touchF (addF f d s i).1 e,(addF f d s i).2):=by
 have hk:=addF_keeps (s:=s) (i:=i) hd
 rw [touch_modI he,touch_modI (by rw [hk.nl];exact he),touch_mod.addF hd.2,hk.ft]
theorem Mod.resizeS {u:Nat→DInode→DInode} (h:Mod u) {f:DFS} {i:Int} {Z:Nat} (hi:i.toNat < f.inodes.length):Go.Fw.resizeS (modI u f) i Z=modI u (Go.Fw.resizeS f i Z):=by
 unfold Go.Fw.resizeS
 rw [modI_at hi]
 have h1:rN (u i.toNat (inodeAt f i)) Z=u i.toNat (rN (inodeAt f i) Z):=by
  unfold rN rB
  rw [h.blocks]
  exact (h.comm ..).symm
 have h2:rD (modI u f).data (u i.toNat (inodeAt f i)) Z=rD f.data (inodeAt f i) Z:=by
  unfold rD cutD rB
  rw [h.blocks,h.size]
  rfl
 rw [h1,h2]
 simp only [modI]
 rw [mapIdx_set]
theorem Mod.removeF {u:Nat→DInode→DInode} (h:Mod u) {f:DFS} {d:Int} {s:Str} (hd:0≤d∧d.toNat < f.inodes.length):Go.Fw.removeF (modI u f) d s=(modI u (Go.Fw.removeF f d s).1,(Go.Fw.removeF f d s).2):=by
 have hw:=writeF_keeps (a:=0) (s:=rmT f d s) hd
 have he:=h.entries hd.2
 unfold Go.Fw.removeF rmT
 rw [he,h.writeF hd.2]
 split
 ·rfl
 split
 ·rw [h.resizeS (by unfold rmT at hw;rw [hw.nl];exact hd.2)]
 ·rfl
theorem touch_remove {f:DFS} {d e:Int} {s:Str} (he:e.toNat < f.inodes.length) (hd:0≤d∧d.toNat < f.inodes.length):removeF (touchF f e) d s=(touchF (removeF f d s).1 e,(removeF f d s).2):=by
 have hk:=removeF_keeps (s:=s) hd
 rw [touch_modI he,touch_modI (by rw [hk.nl];exact he),touch_mod.removeF hd,hk.ft]
theorem inodeAt_touch_ne {f:DFS} {d j:Int} (hd:d.toNat < f.inodes.length) (h:j.toNat≠d.toNat):inodeAt (touchF f d) j=inodeAt f j:=by
 unfold touchF
 rw [setN_at hd,if_neg h]
theorem setN_comm {f:DFS} {i j:Int} {a b:DInode} (h:i.toNat≠j.toNat):setN (setN f i a) j b=setN (setN f j b) i a:=by
 unfold setN
 congr 1
 exact List.set_comm _ _ h
theorem touch_unlink {f:DFS} {d j:Int} {busy:List Int} (hd:d.toNat < f.inodes.length) (hj:j.toNat < f.inodes.length) (h:j.toNat≠d.toNat):unlinkF (touchF f d) j busy=touchF (unlinkF f j busy) d:=by
 have h1:unlinkS (touchF f d) j=touchF (unlinkS f j) d:=by
  unfold unlinkS
  rw [inodeAt_touch_ne hd h]
  unfold touchF
  rw [setN_at hj,if_neg (fun e=>h e.symm)]
  exact setN_comm (fun e=>h e.symm)
 have hl:(unlinkS f j).inodes.length=f.inodes.length:=by simp [unlinkS,setN]
 have h2:freeB (touchF (unlinkS f j) d) j busy=freeB (unlinkS f j) j busy:=by
  unfold freeB
  rw [inodeAt_touch_ne (by rw [hl];exact hd) h]
 unfold unlinkF
 rw [h1,h2]
 split
 ·unfold freeF
  rw [inodeAt_touch_ne (by rw [hl];exact hd) h]
  generalize unlinkS f j=g at *
  have hg:inodeAt ⟨g.tick,g.quotas,g.inodes.set j.toNat zeroInode,zeroR g.data (real (inodeAt g j).blocks)⟩ d=inodeAt g d:=by
   rw [inodeAt_set (by rw [hl];exact hj),if_neg (fun e=>h e.symm)]
  unfold touchF
  rw [hg]
  unfold setN
  simp only
  congr 1
  exact List.set_comm _ _ (fun e=>h e.symm)
 ·rfl
theorem touch_twice {f:DFS} {d:Int} (hd:d.toNat < f.inodes.length):touchF (touchF f d) d=touchF f d:=by
 unfold touchF
 rw [setN_at hd,if_pos rfl]
 unfold setN
 simp
theorem touch_comm {f:DFS} {d e:Int} (hd:d.toNat < f.inodes.length) (he:e.toNat < f.inodes.length):touchF (touchF f d) e=touchF (touchF f e) d:=by
 by_cases h:d.toNat=e.toNat
 ·have h1:∀ g:DFS,touchF g d=touchF g e:=fun g=>by unfold touchF setN inodeAt;rw [h]
  rw [h1,h1]
 ·unfold touchF
  rw [setN_at hd,if_neg (fun e=>h e.symm),setN_at he,if_neg h]
  exact setN_comm h
end Go.Fw
