import Derived.Test.YtgopfdninbknpaaGreatP12
import Derived.Test.YtgopfdninbknpaaGreatM30
import Derived.Test.YtgopfdninbknpaaGreatP13c
import Derived.Test.YtgopfdninbknpaaGreatP14m
namespace Go.Proofs.YtgopfdninbknpaaGreat
open Go.Fw
set_option linter.unusedVariables false
set_option linter.unusedSimpArgs false
set_option maxHeartbeats 1000000
set_option maxRecDepth 8000
theorem impl_inodes (n1 n2 n3:Option Bool) (f:DFS) (u:Int) (hn:f.inodes.length=20) (hu:IsUser u):Snd Tryz.prog 165 [pFS n1 n2 n3 f, .int .i64 u] (.int .i64 (usedN f (5 * u.toNat) 5)) [.unk, .unk]:=Runs.snd (M:=M) (c:=⟨2,[4,5,7,17,18,19,20,25],[],[(1,[0,1,4,5,17,18,19,20,25])]⟩) tok ks mixed Tryz.func165 (p := []) (by kernel_rfl) (by rfl) (by rfl) <| by
 obtain ⟨k,rfl⟩:=Int.eq_ofNat_of_zero_le hu.1
 have hk:k < 4:=by omega
 (try simp -implicitDefEqProofs (disch:=first|exact dd|fail)[Tryz.f165]);(repeat'((with_reducible first|(refine Br.out ?_ ?_<;>intro h<;>(try(have h0:=h;simp only[bH]at h)))|fail)<;>(try simp -implicitDefEqProofs (disch:=first|exact dd|fail)[Tryz.f165])))
 have e1:((k:Int) * 5).toNat=5 * k:=by omega
 have e2:((k:Int) + 1) * 5 - (k:Int) * 5=5:=by omega
 have e3:max (5:Int) 0=5:=rfl
 simp only [e1,e2,e3]
 refine AL_fors (σ:=Unit) 19 5 (fun j _ => [(5, .int .i64 (usedN f (5 * k) j))]) (fun j _ => []) (fun j _=>True) () rfl trivial (fun j _ n hjt _ jh => ?_) (fun _ n _ => ?_)
 ·have hj:=jh () trivial
  have hl:=usedN_le (f:=f) (lo:=5 * k) (n:=j)
  have hkj:5 * k + j < f.inodes.length:=by omega
  rw [usedN_succ (n:=j),inodeAt_nat hkj] at hj
  generalize usedN f (5 * k) j=p at *
  by_cases hm:f.inodes[5 * k + j].kind=0
  ·rw [if_pos hm] at hj
   (try simp -implicitDefEqProofs (disch:=first|exact dd|fail)[Tryz.f165,hjt,hkj,hm,cInode]);(repeat'((with_reducible first|(refine Br.out ?_ ?_<;>intro h<;>(try(have h0:=h;simp only[bH]at h)))|fail)<;>(try simp -implicitDefEqProofs (disch:=first|exact dd|fail)[Tryz.f165,hjt,hkj,hm,cInode])))
   all_goals first | exact hj
  ·rw [if_neg hm] at hj
   (try simp -implicitDefEqProofs (disch:=first|exact dd|fail)[Tryz.f165,hjt,hkj,hm,cInode]);(repeat'((with_reducible first|(refine Br.out ?_ ?_<;>intro h<;>(try(have h0:=h;simp only[bH]at h)))|fail)<;>(try simp -implicitDefEqProofs (disch:=first|exact dd|fail)[Tryz.f165,hjt,hkj,hm,cInode])))
   all_goals first | exact hj
 ·(try simp -implicitDefEqProofs (disch:=first|exact dd|fail)[Tryz.f165]);(repeat'((with_reducible first|(refine Br.out ?_ ?_<;>intro h<;>(try(have h0:=h;simp only[bH]at h)))|fail)<;>(try simp -implicitDefEqProofs (disch:=first|exact dd|fail)[Tryz.f165])))
theorem impl_nextInode (n1 n2 n3:Option Bool) (f:DFS) (u:Int) (hn:f.inodes.length=20) (hu:IsUser u) (hq:f.quotas.length=4):Snd Tryz.prog 81 [pFS n1 n2 n3 f, .int .i64 u] (.tup [.int .i64 (nextI f u).1, .int .i64 (nextI f u).2]) [.unk, .unk]:=Runs.snd (M:=M) (c:=⟨2,[4,5,6,18,25,36],[],[]⟩) tok ks mixed Tryz.func81 (p := []) (by kernel_rfl) (by rfl) (by rfl) <| by
 have hb:=impl_inodes n1 n2 n3 f u hn hu
 obtain ⟨k,rfl⟩:=Int.eq_ofNat_of_zero_le hu.1
 have hk:k < 4:=by omega
 have hkq:k < f.quotas.length:=by omega
 have hq2:=quotaAt_nat hkq
 simp only [Int.toNat_natCast] at hb
 unfold nextI
 simp only [hq2,Int.toNat_natCast]
 by_cases hc:f.quotas[k].inodes≤((usedN f (5 * k) 5:Nat):Int)
 ·rw [if_pos hc]
  (try simp -implicitDefEqProofs (disch:=first|exact dd|fail)[Tryz.f81,hkq,hc,cQuota]);(repeat'((with_reducible first|(refine Br.out ?_ ?_<;>intro h<;>(try(have h0:=h;simp only[bH]at h)))|refine AC_snd (hb) ?_|fail)<;>(try simp -implicitDefEqProofs (disch:=first|exact dd|fail)[Tryz.f81,hkq,hc,cQuota])))
 rw [if_neg hc]
 (try simp -implicitDefEqProofs (disch:=first|exact dd|fail)[Tryz.f81,hkq,hc,cQuota]);(repeat'((with_reducible first|(refine Br.out ?_ ?_<;>intro h<;>(try(have h0:=h;simp only[bH]at h)))|refine AC_snd (hb) ?_|fail)<;>(try simp -implicitDefEqProofs (disch:=first|exact dd|fail)[Tryz.f81,hkq,hc,cQuota])))
 have e1:(k:Int) * 5=((5 * k:Nat):Int):=by omega
 rw [e1]
 refine AL_up (fun q=>5 * k + 5 - q) (fun (q:Nat) => [(6, .int .i64 (q:Int))]) (fun _ => []) (fun q=>(5 * k≤q∧q≤5 * k + 5)∧nextN f q (5 * k + 5 - q)=nextN f (5 * k) 5) (5 * k) rfl ⟨by omega,by rw [show 5 * k + 5 - 5 * k=5 by omega]⟩ ?_
 rintro q n ⟨⟨hq0,hq1⟩,he⟩ ih
 rcases Nat.lt_or_ge q (5 * k + 5) with hjt | hjt
 ·have hql:q < f.inodes.length:=by omega
  have hst:nextN f q (5 * k + 5 - q)=if f.inodes[q].kind=0 then ((q:Int),0) else nextN f (q + 1) (5 * k + 5 - (q + 1)):=by
   rw [show 5 * k + 5 - q=(5 * k + 5 - (q + 1)) + 1 by omega,nextN,inodeAt_nat hql]
  by_cases hm:f.inodes[q].kind=0
  ·rw [if_pos hm] at hst
   rw [←he,hst]
   (try simp -implicitDefEqProofs (disch:=first|exact dd|fail)[Tryz.f81,hql,hm,cInode,hjt]);(repeat'((with_reducible first|(refine Br.out ?_ ?_<;>intro h<;>(try(have h0:=h;simp only[bH]at h)))|fail)<;>(try simp -implicitDefEqProofs (disch:=first|exact dd|fail)[Tryz.f81,hql,hm,cInode,hjt])))
  ·rw [if_neg hm] at hst
   have hi:=ih (q + 1) ⟨by omega,by rw [←hst];exact he⟩ (by omega)
   (try simp -implicitDefEqProofs (disch:=first|exact dd|fail)[Tryz.f81,hql,hm,cInode,hjt]);(repeat'((with_reducible first|(refine Br.out ?_ ?_<;>intro h<;>(try(have h0:=h;simp only[bH]at h)))|fail)<;>(try simp -implicitDefEqProofs (disch:=first|exact dd|fail)[Tryz.f81,hql,hm,cInode,hjt])))
   all_goals first | exact hi
 ·obtain rfl:q=5 * k + 5:=by omega
  rw [←he,Nat.sub_self,nextN]
  (try simp -implicitDefEqProofs (disch:=first|exact dd|fail)[Tryz.f81,cInode]);(repeat'((with_reducible first|(refine Br.out ?_ ?_<;>intro h<;>(try(have h0:=h;simp only[bH]at h)))|fail)<;>(try simp -implicitDefEqProofs (disch:=first|exact dd|fail)[Tryz.f81,cInode])))
theorem spec_l08Inodes (n1 n2 n3:Option Bool) (f:DFS) (u:Int) (hn:f.inodes.length=20) (hu:IsUser u):Snd Tryz.prog 220 [fFS n1 n2 n3 f, .int .i64 u] (.int .i64 (usedN f (5 * u.toNat) 5)) [.unk, .unk]:=Runs.snd (M:=M) (c:=⟨2,[2,4,5,6,8,20],[],[]⟩) tok ks mixed Tryz.func220 (p := []) (by kernel_rfl) (by rfl) (by rfl) <| by
 obtain ⟨k,rfl⟩:=Int.eq_ofNat_of_zero_le hu.1
 have hk:k < 4:=by omega
 simp only [Int.toNat_natCast]
 (try simp -implicitDefEqProofs (disch:=first|exact dd|fail)[Tryz.f220]);(repeat'((with_reducible first|(refine Br.out ?_ ?_<;>intro h<;>(try(have h0:=h;simp only[bH]at h)))|fail)<;>(try simp -implicitDefEqProofs (disch:=first|exact dd|fail)[Tryz.f220])))
 refine AL_fors (σ:=Unit) 6 5 (fun j _ => [(5, .int .i64 (usedN f (5 * k) j))]) (fun j _ => []) (fun j _=>True) () rfl trivial (fun j _ n hjt _ jh => ?_) (fun _ n _ => ?_)
 ·have hj:=jh () trivial
  have hl:=usedN_le (f:=f) (lo:=5 * k) (n:=j)
  have hkj:5 * k + j < f.inodes.length:=by omega
  rw [usedN_succ (n:=j),inodeAt_nat hkj] at hj
  generalize usedN f (5 * k) j=p at *
  have hkj2:k * 5 + j < f.inodes.length:=by omega
  have e1:f.inodes[5 * k + j]=f.inodes[k * 5 + j]:=by congr 1;omega
  rw [e1] at hj
  have e2:((k:Int) * 5 + (j:Int)).toNat=k * 5 + j:=by omega
  by_cases hm:f.inodes[k * 5 + j].kind=0
  ·rw [if_pos hm] at hj
   (try simp -implicitDefEqProofs (disch:=first|exact dd|fail)[Tryz.f220,hjt,hkj2,e2,hm,cInode]);(repeat'((with_reducible first|(refine Br.out ?_ ?_<;>intro h<;>(try(have h0:=h;simp only[bH]at h)))|fail)<;>(try simp -implicitDefEqProofs (disch:=first|exact dd|fail)[Tryz.f220,hjt,hkj2,e2,hm,cInode])))
   all_goals first | exact hj
  ·rw [if_neg hm] at hj
   (try simp -implicitDefEqProofs (disch:=first|exact dd|fail)[Tryz.f220,hjt,hkj2,e2,hm,cInode]);(repeat'((with_reducible first|(refine Br.out ?_ ?_<;>intro h<;>(try(have h0:=h;simp only[bH]at h)))|fail)<;>(try simp -implicitDefEqProofs (disch:=first|exact dd|fail)[Tryz.f220,hjt,hkj2,e2,hm,cInode])))
   all_goals first | exact hj
 ·(try simp -implicitDefEqProofs (disch:=first|exact dd|fail)[Tryz.f220]);(repeat'((with_reducible first|(refine Br.out ?_ ?_<;>intro h<;>(try(have h0:=h;simp only[bH]at h)))|fail)<;>(try simp -implicitDefEqProofs (disch:=first|exact dd|fail)[Tryz.f220])))
theorem spec_l08NextInode (n1 n2 n3:Option Bool) (f:DFS) (u:Int) (hn:f.inodes.length=20) (hu:IsUser u) (hq:f.quotas.length=4):Snd Tryz.prog 147 [fFS n1 n2 n3 f, .int .i64 u] (.tup [.int .i64 (nextI f u).1, .int .i64 (nextI f u).2]) [.unk, .unk]:=Runs.snd (M:=M) (c:=⟨2,[2,4,5,6,7,18,25,34],[],[]⟩) tok ks mixed Tryz.func147 (p := []) (by kernel_rfl) (by rfl) (by rfl) <| by
 have hb:=fun a b d=>spec_l08Inodes a b d f u hn hu
 obtain ⟨k,rfl⟩:=Int.eq_ofNat_of_zero_le hu.1
 have hk:k < 4:=by omega
 have hkq:k < f.quotas.length:=by omega
 have hq2:=quotaAt_nat hkq
 simp only [Int.toNat_natCast] at hb
 unfold nextI
 simp only [hq2,Int.toNat_natCast]
 by_cases hc:f.quotas[k].inodes≤((usedN f (5 * k) 5:Nat):Int)
 ·rw [if_pos hc]
  (try simp -implicitDefEqProofs (disch:=first|exact dd|fail)[Tryz.f147,hkq,hc,cQuota]);(repeat'((with_reducible first|(refine Br.out ?_ ?_<;>intro h<;>(try(have h0:=h;simp only[bH]at h)))|refine AC_snd (hb _ _ _) ?_|fail)<;>(try simp -implicitDefEqProofs (disch:=first|exact dd|fail)[Tryz.f147,hkq,hc,cQuota])))
 rw [if_neg hc]
 (try simp -implicitDefEqProofs (disch:=first|exact dd|fail)[Tryz.f147,hkq,hc,cQuota]);(repeat'((with_reducible first|(refine Br.out ?_ ?_<;>intro h<;>(try(have h0:=h;simp only[bH]at h)))|refine AC_snd (hb _ _ _) ?_|fail)<;>(try simp -implicitDefEqProofs (disch:=first|exact dd|fail)[Tryz.f147,hkq,hc,cQuota])))
 have e1:(k:Int) * 5=((5 * k:Nat):Int):=by omega
 rw [e1]
 refine AL_up (fun q=>5 * k + 5 - q) (fun (q:Nat) => [(7, .int .i64 (q:Int))]) (fun _ => []) (fun q=>(5 * k≤q∧q≤5 * k + 5)∧nextN f q (5 * k + 5 - q)=nextN f (5 * k) 5) (5 * k) rfl ⟨by omega,by rw [show 5 * k + 5 - 5 * k=5 by omega]⟩ ?_
 rintro q n ⟨⟨hq0,hq1⟩,he⟩ ih
 rcases Nat.lt_or_ge q (5 * k + 5) with hjt | hjt
 ·have hql:q < f.inodes.length:=by omega
  have hst:nextN f q (5 * k + 5 - q)=if f.inodes[q].kind=0 then ((q:Int),0) else nextN f (q + 1) (5 * k + 5 - (q + 1)):=by
   rw [show 5 * k + 5 - q=(5 * k + 5 - (q + 1)) + 1 by omega,nextN,inodeAt_nat hql]
  by_cases hm:f.inodes[q].kind=0
  ·rw [if_pos hm] at hst
   rw [←he,hst]
   (try simp -implicitDefEqProofs (disch:=first|exact dd|fail)[Tryz.f147,hql,hm,cInode,hjt]);(repeat'((with_reducible first|(refine Br.out ?_ ?_<;>intro h<;>(try(have h0:=h;simp only[bH]at h)))|fail)<;>(try simp -implicitDefEqProofs (disch:=first|exact dd|fail)[Tryz.f147,hql,hm,cInode,hjt])))
  ·rw [if_neg hm] at hst
   have hi:=ih (q + 1) ⟨by omega,by rw [←hst];exact he⟩ (by omega)
   (try simp -implicitDefEqProofs (disch:=first|exact dd|fail)[Tryz.f147,hql,hm,cInode,hjt]);(repeat'((with_reducible first|(refine Br.out ?_ ?_<;>intro h<;>(try(have h0:=h;simp only[bH]at h)))|fail)<;>(try simp -implicitDefEqProofs (disch:=first|exact dd|fail)[Tryz.f147,hql,hm,cInode,hjt])))
   all_goals first | exact hi
 ·obtain rfl:q=5 * k + 5:=by omega
  rw [←he,Nat.sub_self,nextN]
  (try simp -implicitDefEqProofs (disch:=first|exact dd|fail)[Tryz.f147,cInode]);(repeat'((with_reducible first|(refine Br.out ?_ ?_<;>intro h<;>(try(have h0:=h;simp only[bH]at h)))|fail)<;>(try simp -implicitDefEqProofs (disch:=first|exact dd|fail)[Tryz.f147,cInode])))
set_option maxHeartbeats 1000000
set_option maxRecDepth 8000
theorem newOwner_eq {f:DFS} {c:DCred} {d:Int}:newOwner f c d=(c.uid,gidN f c d):=by
 unfold newOwner gidN
 split<;>rfl
structure MakeOk (f:DFS) (c:DCred) (kind mode:Int):Prop where
 fs:IsFS f
 cr:IsCred c
 kd:kind=1∨kind=2
 md:IsMode mode
 m1:iAnd mode 1024=0
 m2:kind=1→iAnd mode 512=0
theorem fresh_has {f:DFS} {i d:Int} {n:DInode} (hf:IsFS f) (hi:0≤i∧i < 20) (hne:d.toNat≠i.toNat):hasI (setN f i n) d=hasI f d:=by
 unfold hasI
 rw [setN_at (by rw [hf.ni];omega),if_neg hne]
theorem free_ne {f:DFS} {i d:Int} (hd:hasI f d=true) (hi:0≤i∧i < 20) (hk:(inodeAt f i).kind=0):d.toNat≠i.toNat:=by
 intro e
 have h:=hasI_lt hd
 have e2:d=i:=by omega
 subst e2
 simp [hasI,hk] at hd
theorem impl_NewObject1 (f:DFS) (c:DCred) (d i:Nat) (s:Str) (kind mode:Int) (n1:Option Bool) (hok:MakeOk f c kind mode) (hd:hasI f d=true) (hi:i < 20) (hk:(inodeAt f i).kind=0) (hs:s.length≤1048576) :
  Snd Tryz.prog 83 [wFS f, .fptr [.int .i64 d], .fptr [.int .i64 c.uid, .int .i64 c.gid, .frz 1 n1 (c.groups.map ci)], .fptr [.int .i64 kind], .fptr [.int .i64 mode], .fptr [.int .i64 i], .fptr [.str s]] (.int .i64 (addF (setN f i (newN f c d kind mode)) d s i).2) [wFS (touchF (addF (setN f i (newN f c d kind mode)) d s i).1 d), .unk, .unk, .unk, .unk, .unk, .unk]:=Runs.snd (M:=M) (c:=⟨1,[1,2,3,4,5,6,8,9,10,11,12,41],[],[]⟩) tok ks mixed Tryz.func83 (p := [0]) (by kernel_rfl) (by rfl) (by rfl) <| by
 have hf:=hok.fs
 have hn:=hf.ni
 have hdl:=hasI_lt hd
 have hi1:i < f.inodes.length:=by omega
 have hd1:d < f.inodes.length:=by omega
 have hir:(0:Int)≤(i:Int)∧(i:Int) < 20:=by omega
 have hne:=free_ne hd hir hk
 simp only [Int.toNat_natCast] at hne
 have hN:=newN_ok hf hok.cr hd hok.kd hok.md hok.m2
 have hg1:=hf.fresh hir hk hN rfl
 have hg1h:hasI (setN f i (newN f c d kind mode)) d=true:=by rw [fresh_has hf hir (by simpa using hne)];exact hd
 have hg2:=hg1.touch hg1h
 have hg2h:hasI (touchF (setN f i (newN f c d kind mode)) d) d=true:=by rw [touch_has (by rw [hg1.ni];omega)];exact hg1h
 have c1:=impl_add (touchF (setN f i (newN f c d kind mode)) d) d i s (SmF.of hg2) hg2 hg2h hs
 rw [Go.Fw.touch_add (by rw [hg1.ni];omega) ⟨by omega,by rw [hg1.ni];omega⟩] at c1
 have c2:=fun a b e g=>impl_owner a b e g f c d hn ⟨by omega,by omega⟩
 simp only [newOwner_eq] at c2
 have hda:(inodeAt f d).dflt.length≤1048576:=by
  have:=(SmF.of hf).inode _ (List.getElem_mem hd1)
  rw [inodeAt_nat hd1]
  exact this.dflt
 have c3:=fun a=>slices_CloneAcl a (inodeAt f d).dflt hda
 generalize touchF (addF (setN f i (newN f c d kind mode)) d s i).1 d=g at *
 generalize (addF (setN f i (newN f c d kind mode)) d s i).2=e at *
 have hm:∀ (L:List DInode) (k:Nat) (n:DInode),(L.map cInode).set k (cInode n)=(L.set k n).map cInode:=fun L k n=>List.map_set.symm
 generalize hNN:newN f c d kind mode=N at *
 have hr1:=hm f.inodes i N
 have hL:(f.inodes.set i N)[d]? = some f.inodes[d]:=by rw [List.getElem?_set_ne (fun e=>hne e.symm),List.getElem?_eq_getElem hd1]
 have hLl:(f.inodes.set i N).length=f.inodes.length:=List.length_set
 have hfs:touchF (setN f i N) d=⟨f.tick,f.quotas,(f.inodes.set i N).set d { f.inodes[d] with tick:=f.tick },f.data⟩:=by
  have e1:inodeAt (setN f i N) d=f.inodes[d]:=by
   rw [setN_at (by simpa using hi1),if_neg (by simpa using hne),inodeAt_nat hd1]
  unfold touchF
  rw [e1]
  unfold setN
  simp
 rw [hfs] at c1
 clear hfs hg1 hg2 hg1h hg2h hN
 generalize f.inodes.set i N=L at *
 have hdL:d < L.length:=by omega
 have hLd:L[d]=f.inodes[d]:=by rw [List.getElem?_eq_getElem hdL] at hL;exact Option.some.inj hL
 have hr2:=hm L d { f.inodes[d] with tick:=f.tick }
 have hL2:(L.set d { f.inodes[d] with tick:=f.tick }).length=f.inodes.length:=by rw [List.length_set];exact hLl
 generalize L.set d { f.inodes[d] with tick:=f.tick }=L2 at *
 rw [inodeAt_nat hd1] at c3
 have hk1:newN f c d kind mode=N:=hNN
 unfold newN at hNN
 rw [inodeAt_nat hd1] at hNN
 subst hNN
 simp only [cInode,List.map_nil] at hr1 hr2
 clear hm hL
 rcases hok.kd with rfl | rfl
 ·simp only [show ¬ (1:Int)=2 by decide,if_false,List.map_nil] at hr1
  (try simp -implicitDefEqProofs (disch:=first|exact dd|fail)[Tryz.f83,hi1,hd1,hdL,hLd,hLl,hL2,hr1,hr2,cInode]);(repeat'((with_reducible first|(refine Br.out ?_ ?_<;>intro h<;>(try(have h0:=h;simp only[bH]at h)))|refine AC_snd (c2 _ _ _ _) ?_|refine AC_snd (c3 _) ?_|refine AC_snd (c1) ?_|fail)<;>(try simp -implicitDefEqProofs (disch:=first|exact dd|fail)[Tryz.f83,hi1,hd1,hdL,hLd,hLl,hL2,hr1,hr2,cInode])))
 ·simp only [if_true] at hr1
  (try simp -implicitDefEqProofs (disch:=first|exact dd|fail)[Tryz.f83,hi1,hd1,hdL,hLd,hLl,hL2,hr1,hr2,cInode]);(repeat'((with_reducible first|(refine Br.out ?_ ?_<;>intro h<;>(try(have h0:=h;simp only[bH]at h)))|refine AC_snd (c2 _ _ _ _) ?_|refine AC_snd (c3 _) ?_|refine AC_snd (c1) ?_|fail)<;>(try simp -implicitDefEqProofs (disch:=first|exact dd|fail)[Tryz.f83,hi1,hd1,hdL,hLd,hLl,hL2,hr1,hr2,cInode])))
theorem impl_changed_NewObject (n1 n2 n3 n4:Option Bool) (f:DFS) (c:DCred) (d i:Int) (s:Str) (kind mode:Int) (hok:MakeOk f c kind mode) (hd:hasI f d=true) (hi:0≤i∧i < 20) (hk:(inodeAt f i).kind=0) (hl:s.length≤1048576) :
  Snd Tryz.prog 82 [fFS n1 n2 n3 f, .fn 83 [.fptr [.int .i64 d], .fptr [.int .i64 c.uid, .int .i64 c.gid, .frz 1 n4 (c.groups.map ci)], .fptr [.int .i64 kind], .fptr [.int .i64 mode], .fptr [.int .i64 i], .fptr [.str s]]] (.tup [rFS (if (addF (setN f i (newN f c d kind mode)) d s i).2=0 then touchF (addF (setN f i (newN f c d kind mode)) d s i).1 d else f), .int .i64 (addF (setN f i (newN f c d kind mode)) d s i).2]) [.unk, .unk]:=Runs.snd (M:=M) (c:=⟨2,[2,4,5,6,7,13],[],[]⟩) tok ks mixed Tryz.func82 (p := []) (by kernel_rfl) (by rfl) (by rfl) <| by
 have hdl:=hasI_lt hd
 obtain ⟨a,rfl⟩:=Int.eq_ofNat_of_zero_le hdl.1
 obtain ⟨b,rfl⟩:=Int.eq_ofNat_of_zero_le hi.1
 have hc:=impl_NewObject1 f c a b s kind mode n4 hok hd (by omega) hk hl
 have hs:=SmF.of hok.fs
 generalize touchF (addF (setN f b (newN f c a kind mode)) a s b).1 a=g at *
 generalize (addF (setN f b (newN f c a kind mode)) a s b).2=e at *
 by_cases he:e=0
 ·subst he
  simp only [if_true]
  (try simp -implicitDefEqProofs (disch:=first|exact dd|fail)[Tryz.f82]);(repeat'((with_reducible first|(refine Br.out ?_ ?_<;>intro h<;>(try(have h0:=h;simp only[bH]at h)))|refine AC_snd (impl_copyFS _ _ _ f hs) ?_|refine AC_snd (hc) ?_|fail)<;>(try simp -implicitDefEqProofs (disch:=first|exact dd|fail)[Tryz.f82])))
 ·simp only [he,if_false]
  (try simp -implicitDefEqProofs (disch:=first|exact dd|fail)[Tryz.f82,he]);(repeat'((with_reducible first|(refine Br.out ?_ ?_<;>intro h<;>(try(have h0:=h;simp only[bH]at h)))|refine AC_snd (impl_copyFS _ _ _ f hs) ?_|refine AC_snd (hc) ?_|fail)<;>(try simp -implicitDefEqProofs (disch:=first|exact dd|fail)[Tryz.f82,he])))
noncomputable def makeO (f:DFS) (c:DCred) (p:Str) (kind mode:Int):DFS × Int × Int:=
 if tr (MakeOk f c kind mode)=false then (f,0,1) else if (resolveQ f c p).2.2≠0 then (f,0,(resolveQ f c p).2.2) else makeF f c (resolveQ f c p).1 (resolveQ f c p).2.1 kind mode
theorem makeF_fs {f:DFS} {c:DCred} {d kind mode:Int} {s:Str} (hok:MakeOk f c kind mode) (hd:hasI f d=true):(makeF f c d s kind mode).1=f∨IsFS (makeF f c d s kind mode).1:=by
 unfold makeF
 split
 ·exact .inl rfl
 split
 ·exact .inl rfl
 split
 ·exact .inl rfl
 rename_i h3
 obtain ⟨k,h4,h5,h6⟩:=nextI_ok hok.cr.2.1 (Classical.not_not.1 h3)
 split
 ·rename_i h7
  right
  rw [h4] at h7 ⊢
  have hir:(0:Int)≤(k:Int)∧(k:Int) < 20:=by omega
  have hne:=free_ne hd hir h6
  have hg:=hok.fs.fresh hir h6 (newN_ok hok.fs hok.cr hd hok.kd hok.md hok.m2) rfl
  have hgd:hasI (setN f k (newN f c d kind mode)) d=true:=by rw [fresh_has hok.fs hir hne];exact hd
  have hdl:=hasI_lt hd
  have hkp:=addF_keeps (f:=setN f k (newN f c d kind mode)) (d:=d) (s:=s) (i:=k) ⟨hdl.1,by rw [hg.ni];omega⟩
  exact (hg.add (SmF.of hg) hgd h7).touch (by rw [hkp.has];exact hgd)
 ·exact .inl rfl
theorem makeO_fs {f:DFS} {c:DCred} {p:Str} {kind mode:Int}:(makeO f c p kind mode).1=f∨IsFS (makeO f c p kind mode).1:=by
 unfold makeO
 split
 ·exact .inl rfl
 rename_i h1
 have hok:=tr_iff.1 (by simpa using h1:tr (MakeOk f c kind mode)=true)
 split
 ·exact .inl rfl
 rename_i h2
 have hq:=resolveQ_ok (Classical.not_not.1 h2)
 exact makeF_fs hok (isDir_use hq.2.2.1)
theorem makeO1_fs {f:DFS} {c:DCred} {p:Str} {mode:Int}:(makeO f c p 1 mode).1=f∨IsFS (makeO f c p 1 mode).1:=makeO_fs
theorem makeO2_fs {f:DFS} {c:DCred} {p:Str} {mode:Int}:(makeO f c p 2 mode).1=f∨IsFS (makeO f c p 2 mode).1:=makeO_fs
theorem impl_NewObject (n1 n2 n3 n4:Option Bool) (f:DFS) (c:DCred) (p:Str) (kind mode:Int) (hs:SmF f) (hc:c.groups.length≤1048576) (hp:p.length≤1048576):Snd Tryz.prog 20 [fFS n1 n2 n3 f,fCred n4 c, .str p, .int .i64 kind, .int .i64 mode] (.tup [rFS (makeO f c p kind mode).1, .int .i64 (makeO f c p kind mode).2.1, .int .i64 (makeO f c p kind mode).2.2]) [.unk, .unk, .unk, .unk, .unk]:=Runs.snd (M:=M) (c:=⟨5,[5,6,8,9,10,11,12,13,14,15,17,18,19,54,66,76,82,92,103],[],[]⟩) tok ks mixed Tryz.func20 (p := []) (by kernel_rfl) (by rfl) (by rfl) <| by
 have c2:=fun a b d e=>impl_ResolveParent a b d e f c p hs hc hp
 have hok2:=resolveQ_ok (f:=f) (c:=c) (p:=p)
 have cp:=fun a b d=>impl_copyFS a b d f hs
 have c0:=fun a b d=>impl_IsFS a b d f hs
 have c00:=fun a=>impl_IsCred a c hc
 obtain ⟨A,hA⟩:∃ A,A=makeO f c p kind mode:=⟨_,rfl⟩
 rw [←hA]
 unfold makeO at hA
 by_cases hok:MakeOk f c kind mode
 rotate_left
 ·rw [if_pos (tr_no hok)] at hA
  subst hA
  have hno:¬ (isFS f=true∧isCred c=true∧(kind=1∨kind=2)∧IsMode mode∧iAnd mode 1024=0∧(kind=1→iAnd mode 512=0)):=fun ⟨a1,a2,a3,a4,a5,a6⟩=>hok ⟨tr_iff.1 a1,tr_iff.1 a2,a3,a4,a5,a6⟩
  (try simp -implicitDefEqProofs (disch:=first|exact dd|fail)[Tryz.f20]);(repeat'((with_reducible first|(refine Br.out ?_ ?_<;>intro h<;>(try(have h0:=h;simp only[bH]at h)))|refine AC_snd (c0 _ _ _) ?_|refine AC_snd (c00 _) ?_|refine AC_snd (impl_isMode _) ?_|refine AC_snd (cp _ _ _) ?_|fail)<;>(try simp -implicitDefEqProofs (disch:=first|exact dd|fail)[Tryz.f20])))
  all_goals (exfalso;refine hno ⟨by assumption,by assumption,by omega,by assumption,by assumption,fun e => ?_⟩;first | assumption | omega)
 have f1:=tr_yes hok.fs
 have f2:=tr_yes hok.cr
 have f3:=hok.kd
 have f4:=hok.md
 have f5:=hok.m1
 have f6:=hok.m2
 rw [if_neg (by rw [tr_yes hok];simp)] at hA
 generalize resolveQ f c p=w at *
 obtain ⟨y,s,e2⟩:=w
 by_cases he2:e2=0
 rotate_left
 ·simp [he2] at hA
  subst hA
  rcases f3 with rfl | rfl
  ·(try simp -implicitDefEqProofs (disch:=first|exact dd|fail)[Tryz.f20,f1,f2,f4,f5,f6 rfl,he2]);(repeat'((with_reducible first|(refine Br.out ?_ ?_<;>intro h<;>(try(have h0:=h;simp only[bH]at h)))|refine AC_snd (c0 _ _ _) ?_|refine AC_snd (c00 _) ?_|refine AC_snd (impl_isMode _) ?_|refine AC_snd (c2 _ _ _ _) ?_|refine AC_snd (cp _ _ _) ?_|fail)<;>(try simp -implicitDefEqProofs (disch:=first|exact dd|fail)[Tryz.f20,f1,f2,f4,f5,f6 rfl,he2])))
  ·(try simp -implicitDefEqProofs (disch:=first|exact dd|fail)[Tryz.f20,f1,f2,f4,f5,he2]);(repeat'((with_reducible first|(refine Br.out ?_ ?_<;>intro h<;>(try(have h0:=h;simp only[bH]at h)))|refine AC_snd (c0 _ _ _) ?_|refine AC_snd (c00 _) ?_|refine AC_snd (impl_isMode _) ?_|refine AC_snd (c2 _ _ _ _) ?_|refine AC_snd (cp _ _ _) ?_|fail)<;>(try simp -implicitDefEqProofs (disch:=first|exact dd|fail)[Tryz.f20,f1,f2,f4,f5,he2])))
 subst he2
 simp only [ne_eq,not_true_eq_false,if_false] at hA
 have h2:=hok2 rfl
 simp only at h2
 have hf:=hok.fs
 have hn:=hf.ni
 have hdu:=isDir_use h2.2.2.1
 have hdl:=hasI_lt hdu
 have hsl:=nameOK_len h2.2.2.2
 have c3:=fun a b d=>impl_find a b d f y s hf ⟨hdl.1,hdl.2.1⟩
 have c5:=fun a b d g=>impl_may a b d g f c y 3 hn hs hc
 have c6:=fun a b d=>impl_nextInode a b d f c.uid hn hok.cr.2.1 hf.nq
 have hni:=nextI_ok (f:=f) hok.cr.2.1
 unfold makeF at hA
 have c7:=fun a b d g k hk hk0=>impl_changed_NewObject a b d g f c y k s kind mode hok hdu hk hk0 (by omega)
 generalize hfe:findE (entriesI f y) s=fe at *
 obtain ⟨fx,fb⟩:=fe
 cases fb with
 | true=>
  rw [if_pos rfl] at hA
  subst hA
  rcases f3 with rfl | rfl
  ·(try simp -implicitDefEqProofs (disch:=first|exact dd|fail)[Tryz.f20,f1,f2,f4,f5,f6 rfl]);(repeat'((with_reducible first|(refine Br.out ?_ ?_<;>intro h<;>(try(have h0:=h;simp only[bH]at h)))|refine AC_snd (c0 _ _ _) ?_|refine AC_snd (c00 _) ?_|refine AC_snd (impl_isMode _) ?_|refine AC_snd (c2 _ _ _ _) ?_|refine AC_snd (c3 _ _ _) ?_|refine AC_snd (cp _ _ _) ?_|fail)<;>(try simp -implicitDefEqProofs (disch:=first|exact dd|fail)[Tryz.f20,f1,f2,f4,f5,f6 rfl])))
  ·(try simp -implicitDefEqProofs (disch:=first|exact dd|fail)[Tryz.f20,f1,f2,f4,f5]);(repeat'((with_reducible first|(refine Br.out ?_ ?_<;>intro h<;>(try(have h0:=h;simp only[bH]at h)))|refine AC_snd (c0 _ _ _) ?_|refine AC_snd (c00 _) ?_|refine AC_snd (impl_isMode _) ?_|refine AC_snd (c2 _ _ _ _) ?_|refine AC_snd (c3 _ _ _) ?_|refine AC_snd (cp _ _ _) ?_|fail)<;>(try simp -implicitDefEqProofs (disch:=first|exact dd|fail)[Tryz.f20,f1,f2,f4,f5])))
 | false=>
  rw [if_neg (by simp)] at hA
  by_cases h4:mayI f c y 3=true
  rotate_left
  ·have h4':mayI f c y 3=false:=by simpa using h4
   rw [if_pos h4'] at hA
   subst hA
   rcases f3 with rfl | rfl
   ·(try simp -implicitDefEqProofs (disch:=first|exact dd|fail)[Tryz.f20,f1,f2,f4,f5,f6 rfl,h4']);(repeat'((with_reducible first|(refine Br.out ?_ ?_<;>intro h<;>(try(have h0:=h;simp only[bH]at h)))|refine AC_snd (c0 _ _ _) ?_|refine AC_snd (c00 _) ?_|refine AC_snd (impl_isMode _) ?_|refine AC_snd (c2 _ _ _ _) ?_|refine AC_snd (c3 _ _ _) ?_|refine AC_snd (c5 _ _ _ _) ?_|refine AC_snd (cp _ _ _) ?_|fail)<;>(try simp -implicitDefEqProofs (disch:=first|exact dd|fail)[Tryz.f20,f1,f2,f4,f5,f6 rfl,h4'])))
   ·(try simp -implicitDefEqProofs (disch:=first|exact dd|fail)[Tryz.f20,f1,f2,f4,f5,h4']);(repeat'((with_reducible first|(refine Br.out ?_ ?_<;>intro h<;>(try(have h0:=h;simp only[bH]at h)))|refine AC_snd (c0 _ _ _) ?_|refine AC_snd (c00 _) ?_|refine AC_snd (impl_isMode _) ?_|refine AC_snd (c2 _ _ _ _) ?_|refine AC_snd (c3 _ _ _) ?_|refine AC_snd (c5 _ _ _ _) ?_|refine AC_snd (cp _ _ _) ?_|fail)<;>(try simp -implicitDefEqProofs (disch:=first|exact dd|fail)[Tryz.f20,f1,f2,f4,f5,h4'])))
  rw [if_neg (by simp [h4])] at hA
  generalize nextI f c.uid=nx at *
  obtain ⟨k,e3⟩:=nx
  by_cases he3:e3=0
  rotate_left
  ·simp [he3] at hA
   subst hA
   rcases f3 with rfl | rfl
   ·(try simp -implicitDefEqProofs (disch:=first|exact dd|fail)[Tryz.f20,f1,f2,f4,f5,f6 rfl,h4,he3]);(repeat'((with_reducible first|(refine Br.out ?_ ?_<;>intro h<;>(try(have h0:=h;simp only[bH]at h)))|refine AC_snd (c0 _ _ _) ?_|refine AC_snd (c00 _) ?_|refine AC_snd (impl_isMode _) ?_|refine AC_snd (c2 _ _ _ _) ?_|refine AC_snd (c3 _ _ _) ?_|refine AC_snd (c5 _ _ _ _) ?_|refine AC_snd (c6 _ _ _) ?_|refine AC_snd (cp _ _ _) ?_|fail)<;>(try simp -implicitDefEqProofs (disch:=first|exact dd|fail)[Tryz.f20,f1,f2,f4,f5,f6 rfl,h4,he3])))
   ·(try simp -implicitDefEqProofs (disch:=first|exact dd|fail)[Tryz.f20,f1,f2,f4,f5,h4,he3]);(repeat'((with_reducible first|(refine Br.out ?_ ?_<;>intro h<;>(try(have h0:=h;simp only[bH]at h)))|refine AC_snd (c0 _ _ _) ?_|refine AC_snd (c00 _) ?_|refine AC_snd (impl_isMode _) ?_|refine AC_snd (c2 _ _ _ _) ?_|refine AC_snd (c3 _ _ _) ?_|refine AC_snd (c5 _ _ _ _) ?_|refine AC_snd (c6 _ _ _) ?_|refine AC_snd (cp _ _ _) ?_|fail)<;>(try simp -implicitDefEqProofs (disch:=first|exact dd|fail)[Tryz.f20,f1,f2,f4,f5,h4,he3])))
  subst he3
  obtain ⟨q,hq1,hq2,hq3⟩:=hni rfl
  simp only at hq1
  subst hq1
  simp only [ne_eq,not_true_eq_false,if_false] at hA
  have c7:=fun a b d g=>c7 a b d g q ⟨by omega,by omega⟩ hq3
  generalize touchF (addF (setN f q (newN f c y kind mode)) y s q).1 y=g at *
  generalize (addF (setN f q (newN f c y kind mode)) y s q).2=v at *
  by_cases hv:v=0
  ·subst hv
   simp only [if_true] at hA c7
   subst hA
   rcases f3 with rfl | rfl
   ·(try simp -implicitDefEqProofs (disch:=first|exact dd|fail)[Tryz.f20,f1,f2,f4,f5,f6 rfl,h4]);(repeat'((with_reducible first|(refine Br.out ?_ ?_<;>intro h<;>(try(have h0:=h;simp only[bH]at h)))|refine AC_snd (c0 _ _ _) ?_|refine AC_snd (c00 _) ?_|refine AC_snd (impl_isMode _) ?_|refine AC_snd (c2 _ _ _ _) ?_|refine AC_snd (c3 _ _ _) ?_|refine AC_snd (c5 _ _ _ _) ?_|refine AC_snd (c6 _ _ _) ?_|refine AC_snd (c7 _ _ _ _) ?_|refine AC_snd (cp _ _ _) ?_|fail)<;>(try simp -implicitDefEqProofs (disch:=first|exact dd|fail)[Tryz.f20,f1,f2,f4,f5,f6 rfl,h4])))
   ·(try simp -implicitDefEqProofs (disch:=first|exact dd|fail)[Tryz.f20,f1,f2,f4,f5,h4]);(repeat'((with_reducible first|(refine Br.out ?_ ?_<;>intro h<;>(try(have h0:=h;simp only[bH]at h)))|refine AC_snd (c0 _ _ _) ?_|refine AC_snd (c00 _) ?_|refine AC_snd (impl_isMode _) ?_|refine AC_snd (c2 _ _ _ _) ?_|refine AC_snd (c3 _ _ _) ?_|refine AC_snd (c5 _ _ _ _) ?_|refine AC_snd (c6 _ _ _) ?_|refine AC_snd (c7 _ _ _ _) ?_|refine AC_snd (cp _ _ _) ?_|fail)<;>(try simp -implicitDefEqProofs (disch:=first|exact dd|fail)[Tryz.f20,f1,f2,f4,f5,h4])))
  ·simp only [hv,if_false] at hA c7
   subst hA
   rcases f3 with rfl | rfl
   ·(try simp -implicitDefEqProofs (disch:=first|exact dd|fail)[Tryz.f20,f1,f2,f4,f5,f6 rfl,h4,hv]);(repeat'((with_reducible first|(refine Br.out ?_ ?_<;>intro h<;>(try(have h0:=h;simp only[bH]at h)))|refine AC_snd (c0 _ _ _) ?_|refine AC_snd (c00 _) ?_|refine AC_snd (impl_isMode _) ?_|refine AC_snd (c2 _ _ _ _) ?_|refine AC_snd (c3 _ _ _) ?_|refine AC_snd (c5 _ _ _ _) ?_|refine AC_snd (c6 _ _ _) ?_|refine AC_snd (c7 _ _ _ _) ?_|refine AC_snd (cp _ _ _) ?_|fail)<;>(try simp -implicitDefEqProofs (disch:=first|exact dd|fail)[Tryz.f20,f1,f2,f4,f5,f6 rfl,h4,hv])))
   ·(try simp -implicitDefEqProofs (disch:=first|exact dd|fail)[Tryz.f20,f1,f2,f4,f5,h4,hv]);(repeat'((with_reducible first|(refine Br.out ?_ ?_<;>intro h<;>(try(have h0:=h;simp only[bH]at h)))|refine AC_snd (c0 _ _ _) ?_|refine AC_snd (c00 _) ?_|refine AC_snd (impl_isMode _) ?_|refine AC_snd (c2 _ _ _ _) ?_|refine AC_snd (c3 _ _ _) ?_|refine AC_snd (c5 _ _ _ _) ?_|refine AC_snd (c6 _ _ _) ?_|refine AC_snd (c7 _ _ _ _) ?_|refine AC_snd (cp _ _ _) ?_|fail)<;>(try simp -implicitDefEqProofs (disch:=first|exact dd|fail)[Tryz.f20,f1,f2,f4,f5,h4,hv])))
theorem impl_CreateFile (n1 n2 n3 n4:Option Bool) (f:DFS) (c:DCred) (p:Str) (mode:Int) (hs:SmF f) (hc:c.groups.length≤1048576) (hp:p.length≤1048576):Snd Tryz.prog 29 [fFS n1 n2 n3 f,fCred n4 c, .str p, .int .i64 mode] (.tup [rFS (makeO f c p 1 mode).1, .int .i64 (makeO f c p 1 mode).2.2]) [.unk, .unk, .unk, .unk]:=Runs.snd (M:=M) (c:=⟨4,[4,5,8,9,10,12],[],[]⟩) tok ks mixed Tryz.func29 (p := []) (by kernel_rfl) (by rfl) (by rfl) <| by
 have c1:=fun a b d e=>impl_NewObject a b d e f c p 1 mode hs hc hp
 generalize makeO f c p 1 mode=r at *
 (try simp -implicitDefEqProofs (disch:=first|exact dd|fail)[Tryz.f29]);(repeat'((with_reducible first|(refine Br.out ?_ ?_<;>intro h<;>(try(have h0:=h;simp only[bH]at h)))|refine AC_snd (c1 _ _ _ _) ?_|fail)<;>(try simp -implicitDefEqProofs (disch:=first|exact dd|fail)[Tryz.f29])))
theorem impl_CreateDir (n1 n2 n3 n4:Option Bool) (f:DFS) (c:DCred) (p:Str) (mode:Int) (hs:SmF f) (hc:c.groups.length≤1048576) (hp:p.length≤1048576):Snd Tryz.prog 27 [fFS n1 n2 n3 f,fCred n4 c, .str p, .int .i64 mode] (.tup [rFS (makeO f c p 2 mode).1, .int .i64 (makeO f c p 2 mode).2.2]) [.unk, .unk, .unk, .unk]:=Runs.snd (M:=M) (c:=⟨4,[4,5,8,9,10,12],[],[]⟩) tok ks mixed Tryz.func27 (p := []) (by kernel_rfl) (by rfl) (by rfl) <| by
 have c1:=fun a b d e=>impl_NewObject a b d e f c p 2 mode hs hc hp
 generalize makeO f c p 2 mode=r at *
 (try simp -implicitDefEqProofs (disch:=first|exact dd|fail)[Tryz.f27]);(repeat'((with_reducible first|(refine Br.out ?_ ?_<;>intro h<;>(try(have h0:=h;simp only[bH]at h)))|refine AC_snd (c1 _ _ _ _) ?_|fail)<;>(try simp -implicitDefEqProofs (disch:=first|exact dd|fail)[Tryz.f27])))
end Go.Proofs.YtgopfdninbknpaaGreat
