import Derived.Test.YtgopfdninbknpaaGreatMA
import Derived.Test.YtgopfdninbknpaaGreatP12
import Derived.Test.YtgopfdninbknpaaGreatP08
namespace Go.Proofs.YtgopfdninbknpaaGreat
open Go.Fw
set_option linter.unusedVariables false
set_option linter.unusedSimpArgs false
set_option maxHeartbeats 4000000
set_option maxRecDepth 8000
theorem impl_taken (n1 n2 n3:Option Bool) (f:DFS) (hs:SmF f) (hr:InR f.inodes):Snd Tryz.prog 252 [pFS n1 n2 n3 f] (.row 1 ((usedL (allB f.inodes)).map cb)) [.unk]:=Runs.snd (M:=M) (c:=⟨1,[2,3,5,7,12,13,14,15,19,20,21,22],[],[(1,[0,2,3,12,13,14,15,22]),(2,[0,2,3,5,12,13,14,15,19,20,21,22]),(3,[0,2,3,5,12,13,14,15,19,20,21,22])]⟩) tok ks mixed Tryz.func252 (p := []) (by kernel_rfl) (by rfl) (by rfl) <| by
 have k2:=hs.inodes
 (try simp -implicitDefEqProofs (disch:=first|exact dd|fail)[Tryz.f252]);(repeat'((with_reducible first|(refine Br.out ?_ ?_<;>intro h<;>(try(have h0:=h;simp only[bH]at h)))|fail)<;>(try simp -implicitDefEqProofs (disch:=first|exact dd|fail)[Tryz.f252])))
 refine AL_fors (σ:=Unit) 14 f.inodes.length (fun _ _ => []) (fun i _ => [(384, .row 1 ((usedL (allB (f.inodes.take i))).map cb) [])]) (fun i _=>True) () (by simp [allB,usedL_nil,cb]) trivial (fun i _ n hlt _ ih => ?_) (fun _ n _ => ?_)
 ·have hsn:=hs.inode _ (List.getElem_mem hlt)
  have hbl:=hsn.blocks
  have hal:=allB_take hlt
  have hrr:=hr _ (List.getElem_mem hlt)
  generalize hx:f.inodes[i]=x at *
  have hrl:=real_len (l:=x.blocks)
  (try simp -implicitDefEqProofs (disch:=first|exact dd|fail)[Tryz.f252,hlt,hx,cInode]);(repeat'((with_reducible first|(refine Br.out ?_ ?_<;>intro h<;>(try(have h0:=h;simp only[bH]at h)))|refine AC_snd (impl_UsedBlocks _ _ _ x hsn) ?_|fail)<;>(try simp -implicitDefEqProofs (disch:=first|exact dd|fail)[Tryz.f252,hlt,hx,cInode])))
  have hR:∀ b ∈ real x.blocks,0≤b∧b < 56:=fun b hb=>hrr b (mem_real.1 hb).1 (mem_real.1 hb).2
  have hi:=ih () trivial
  rw [hal] at hi
  generalize real x.blocks=B at *
  refine AL_fors (σ:=Unit) 21 B.length (fun _ _ => []) (fun j _ => [(384, .row 1 ((usedL (allB (f.inodes.take i)++B.take j)).map cb) [])]) (fun j _=>True) () (by simp) trivial (fun j _ n hjt _ jh => ?_) (fun _ n _ => ?_)
  ·have hb:=hR _ (List.getElem_mem hjt)
   have hset:=usedL_set (bs:=allB (f.inodes.take i)++B.take j) hb.1 hb.2
   have hlu:(usedL (allB (f.inodes.take i)++B.take j)).length=56:=usedL_len
   obtain ⟨k,hbk⟩:=Int.eq_ofNat_of_zero_le hb.1
   rw [List.append_assoc,←List.take_succ_eq_append_getElem hjt] at hset
   have hj:=jh () trivial
   rw [←hset,List.map_set] at hj
   simp only [hbk,Int.toNat_natCast] at hj hb
   have hk:k < 56:=by omega
   obtain ⟨o,ho⟩:∃ o,((usedL (allB (f.inodes.take i)++B.take j)).map cb)[k]? = some [.bool o]:=⟨_,by rw [List.getElem?_map,List.getElem?_eq_getElem (by omega)];rfl⟩
   generalize (usedL (allB (f.inodes.take i)++B.take j)).map cb=U at *
   (try simp -implicitDefEqProofs (disch:=first|exact dd|fail)[Tryz.f252,hjt,hbk,ho]);(repeat'((with_reducible first|(refine Br.out ?_ ?_<;>intro h<;>(try(have h0:=h;simp only[bH]at h)))|fail)<;>(try simp -implicitDefEqProofs (disch:=first|exact dd|fail)[Tryz.f252,hjt,hbk,ho])))
   all_goals first | exact hj
  ·rw [List.take_length]
   (try simp -implicitDefEqProofs (disch:=first|exact dd|fail)[Tryz.f252]);(repeat'((with_reducible first|(refine Br.out ?_ ?_<;>intro h<;>(try(have h0:=h;simp only[bH]at h)))|fail)<;>(try simp -implicitDefEqProofs (disch:=first|exact dd|fail)[Tryz.f252])))
   all_goals first | exact hi
 ·rw [List.take_length]
  (try simp -implicitDefEqProofs (disch:=first|exact dd|fail)[Tryz.f252]);(repeat'((with_reducible first|(refine Br.out ?_ ?_<;>intro h<;>(try(have h0:=h;simp only[bH]at h)))|fail)<;>(try simp -implicitDefEqProofs (disch:=first|exact dd|fail)[Tryz.f252])))
theorem impl_blocks (n1 n2 n3:Option Bool) (f:DFS) (u:Int) (hs:SmF f) (hr:InR f.inodes) (hu:IsUser u):Snd Tryz.prog 251 [pFS n1 n2 n3 f, .int .i64 u] (.int .i64 (poolT (allB f.inodes) (14 * u.toNat) 14)) [.unk, .unk]:=Runs.snd (M:=M) (c:=⟨2,[4,5,7,15,16,17,18,21],[],[(1,[0,1,4,5,15,16,17,18,21])]⟩) tok ks mixed Tryz.func251 (p := []) (by kernel_rfl) (by rfl) (by rfl) <| by
 obtain ⟨k,rfl⟩:=Int.eq_ofNat_of_zero_le hu.1
 have hk:k < 4:=by omega
 (try simp -implicitDefEqProofs (disch:=first|exact dd|fail)[Tryz.f251]);(repeat'((with_reducible first|(refine Br.out ?_ ?_<;>intro h<;>(try(have h0:=h;simp only[bH]at h)))|refine AC_snd (impl_taken _ _ _ f hs hr) ?_|fail)<;>(try simp -implicitDefEqProofs (disch:=first|exact dd|fail)[Tryz.f251])))
 have hget:=fun j=>usedL_get (bs:=allB f.inodes) (k:=j)
 have hlu:(usedL (allB f.inodes)).length=56:=usedL_len
 generalize usedL (allB f.inodes)=U at *
 have e1:((k:Int) * 14).toNat=14 * k:=by omega
 have e2:((k:Int) + 1) * 14 - (k:Int) * 14=14:=by omega
 have e3:max (14:Int) 0=14:=rfl
 simp only [e1,e2,e3]
 refine AL_fors (σ:=Unit) 17 14 (fun j _ => [(5, .int .i64 (poolT (allB f.inodes) (14 * k) j))]) (fun j _ => []) (fun j _=>True) () rfl trivial (fun j _ n hjt _ jh => ?_) (fun _ n _ => ?_)
 ·have hj:=jh () trivial
  have hg:=hget (14 * k + j) (by omega)
  have hl:=poolT_le (B:=allB f.inodes) (lo:=14 * k) (n:=j)
  rw [poolT_succ (n:=j)] at hj
  generalize poolT (allB f.inodes) (14 * k) j=p at *
  by_cases hm:((14 * k + j:Nat):Int) ∈ allB f.inodes
  ·rw [decide_eq_true hm] at hg
   rw [if_pos hm] at hj
   have hgv:=(List.getElem?_eq_some_iff.1 hg).2
   (try simp -implicitDefEqProofs (disch:=first|exact dd|fail)[Tryz.f251,hjt,hg,hgv,hlu,cb]);(repeat'((with_reducible first|(refine Br.out ?_ ?_<;>intro h<;>(try(have h0:=h;simp only[bH]at h)))|fail)<;>(try simp -implicitDefEqProofs (disch:=first|exact dd|fail)[Tryz.f251,hjt,hg,hgv,hlu,cb])))
   all_goals first | exact hj
  ·rw [decide_eq_false hm] at hg
   rw [if_neg hm] at hj
   have hgv:=(List.getElem?_eq_some_iff.1 hg).2
   (try simp -implicitDefEqProofs (disch:=first|exact dd|fail)[Tryz.f251,hjt,hg,hgv,hlu,cb]);(repeat'((with_reducible first|(refine Br.out ?_ ?_<;>intro h<;>(try(have h0:=h;simp only[bH]at h)))|fail)<;>(try simp -implicitDefEqProofs (disch:=first|exact dd|fail)[Tryz.f251,hjt,hg,hgv,hlu,cb])))
   all_goals first | exact hj
 ·(try simp -implicitDefEqProofs (disch:=first|exact dd|fail)[Tryz.f251]);(repeat'((with_reducible first|(refine Br.out ?_ ?_<;>intro h<;>(try(have h0:=h;simp only[bH]at h)))|fail)<;>(try simp -implicitDefEqProofs (disch:=first|exact dd|fail)[Tryz.f251])))
theorem impl_nextBlock (n1 n2 n3:Option Bool) (f:DFS) (u:Int) (hs:SmF f) (hr:InR f.inodes) (hu:IsUser u) (hq:f.quotas.length=4):Snd Tryz.prog 195 [pFS n1 n2 n3 f, .int .i64 u] (.tup [.int .i64 (nextB f u).1, .int .i64 (nextB f u).2]) [.unk, .unk]:=Runs.snd (M:=M) (c:=⟨2,[4,5,6,7,19,28,35],[],[]⟩) tok ks mixed Tryz.func195 (p := []) (by kernel_rfl) (by rfl) (by rfl) <| by
 have hb:=impl_blocks n1 n2 n3 f u hs hr hu
 obtain ⟨k,rfl⟩:=Int.eq_ofNat_of_zero_le hu.1
 have hk:k < 4:=by omega
 have hkq:k < f.quotas.length:=by omega
 have hq2:=quotaAt_nat hkq
 simp only [Int.toNat_natCast] at hb
 unfold nextB
 simp only [hq2,Int.toNat_natCast]
 by_cases hc:f.quotas[k].blocks≤((poolT (allB f.inodes) (14 * k) 14:Nat):Int)
 ·rw [if_pos hc]
  (try simp -implicitDefEqProofs (disch:=first|exact dd|fail)[Tryz.f195,hkq,hc,cQuota]);(repeat'((with_reducible first|(refine Br.out ?_ ?_<;>intro h<;>(try(have h0:=h;simp only[bH]at h)))|refine AC_snd (hb) ?_|fail)<;>(try simp -implicitDefEqProofs (disch:=first|exact dd|fail)[Tryz.f195,hkq,hc,cQuota])))
 rw [if_neg hc]
 have hget:=fun j=>usedL_get (bs:=allB f.inodes) (k:=j)
 have hlu:(usedL (allB f.inodes)).length=56:=usedL_len
 have ht:=impl_taken n1 n2 n3 f hs hr
 generalize usedL (allB f.inodes)=U at *
 (try simp -implicitDefEqProofs (disch:=first|exact dd|fail)[Tryz.f195,hkq,hc,hlu,cQuota]);(repeat'((with_reducible first|(refine Br.out ?_ ?_<;>intro h<;>(try(have h0:=h;simp only[bH]at h)))|refine AC_snd (hb) ?_|refine AC_snd (ht) ?_|fail)<;>(try simp -implicitDefEqProofs (disch:=first|exact dd|fail)[Tryz.f195,hkq,hc,hlu,cQuota])))
 have e1:(k:Int) * 14=((14 * k:Nat):Int):=by omega
 rw [e1]
 refine AL_up (fun q=>14 * k + 14 - q) (fun (q:Nat) => [(7, .int .i64 (q:Int))]) (fun _ => []) (fun q=>(14 * k≤q∧q≤14 * k + 14)∧nextFree (allB f.inodes) q (14 * k + 14 - q)=nextFree (allB f.inodes) (14 * k) 14) (14 * k) rfl ⟨by omega,by rw [show 14 * k + 14 - 14 * k=14 by omega]⟩ ?_
 rintro q n ⟨⟨hq0,hq1⟩,he⟩ ih
 rcases Nat.lt_or_ge q (14 * k + 14) with hjt | hjt
 ·have hg:=hget q (by omega)
  have hst:nextFree (allB f.inodes) q (14 * k + 14 - q)=if (q:Int) ∈ allB f.inodes then nextFree (allB f.inodes) (q + 1) (14 * k + 14 - (q + 1)) else ((q:Int),0):=by
   rw [show 14 * k + 14 - q=(14 * k + 14 - (q + 1)) + 1 by omega,nextFree]
  by_cases hm:(q:Int) ∈ allB f.inodes
  ·rw [decide_eq_true hm] at hg
   rw [if_pos hm] at hst
   have hi:=ih (q + 1) ⟨by omega,by rw [←hst];exact he⟩ (by omega)
   have hgv:=(List.getElem?_eq_some_iff.1 hg).2
   (try simp -implicitDefEqProofs (disch:=first|exact dd|fail)[Tryz.f195,hg,hgv,hlu,cb,hjt]);(repeat'((with_reducible first|(refine Br.out ?_ ?_<;>intro h<;>(try(have h0:=h;simp only[bH]at h)))|fail)<;>(try simp -implicitDefEqProofs (disch:=first|exact dd|fail)[Tryz.f195,hg,hgv,hlu,cb,hjt])))
   all_goals first | exact hi
  ·rw [decide_eq_false hm] at hg
   rw [if_neg hm] at hst
   rw [←he,hst]
   have hgv:=(List.getElem?_eq_some_iff.1 hg).2
   (try simp -implicitDefEqProofs (disch:=first|exact dd|fail)[Tryz.f195,hg,hgv,hlu,cb,hjt]);(repeat'((with_reducible first|(refine Br.out ?_ ?_<;>intro h<;>(try(have h0:=h;simp only[bH]at h)))|fail)<;>(try simp -implicitDefEqProofs (disch:=first|exact dd|fail)[Tryz.f195,hg,hgv,hlu,cb,hjt])))
 ·obtain rfl:q=14 * k + 14:=by omega
  rw [←he,Nat.sub_self,nextFree]
  (try simp -implicitDefEqProofs (disch:=first|exact dd|fail)[Tryz.f195,hlu,cb]);(repeat'((with_reducible first|(refine Br.out ?_ ?_<;>intro h<;>(try(have h0:=h;simp only[bH]at h)))|fail)<;>(try simp -implicitDefEqProofs (disch:=first|exact dd|fail)[Tryz.f195,hlu,cb])))
set_option maxHeartbeats 4000000
set_option maxRecDepth 8000
theorem ownN_le {u:Int} {B:List Int}:ownN u B≤B.length:=List.length_filter_le _ _
theorem allB_len {ns:List DInode} (h:∀ n ∈ ns,n.blocks.length≤1048576):(allB ns).length≤1048576 * ns.length:=by
 induction ns with
 | nil=>simp [allB]
 | cons n ns ih=>
  have h1:=ih (fun m hm=>h m (List.mem_cons_of_mem _ hm))
  have h2:=h n (List.mem_cons_self ..)
  have h3:=real_len (l:=n.blocks)
  rw [allB,List.flatMap_cons,List.length_append,←allB,List.length_cons]
  omega
theorem spec_l08Blocks (n1 n2 n3:Option Bool) (f:DFS) (u:Int) (hs:SmF f) (hn:f.inodes.length=20):Snd Tryz.prog 250 [fFS n1 n2 n3 f, .int .i64 u] (.int .i64 (ownN u (allB f.inodes))) [.unk, .unk]:=Runs.snd (M:=M) (c:=⟨2,[2,4,5,7,9,11,12,13,14,18,19,20,21,31],[],[(1,[0,1,2,4,5,11,12,13,14,21,31]),(2,[0,1,2,4,5,7,11,12,13,14,18,19,20,21,31]),(3,[0,1,2,4,5,7,11,12,13,14,18,19,20,21,31])]⟩) tok ks mixed Tryz.func250 (p := []) (by kernel_rfl) (by rfl) (by rfl) <| by
 have hbd:∀ (i:Nat),(allB (f.inodes.take i)).length≤1048576 * 20:=fun i=>by
  have h1:=allB_len (ns:=f.inodes.take i) (fun n hm=>(hs.inode n (List.mem_of_mem_take hm)).blocks)
  rw [List.length_take] at h1
  omega
 (try simp -implicitDefEqProofs (disch:=first|exact dd|fail)[Tryz.f250]);(repeat'((with_reducible first|(refine Br.out ?_ ?_<;>intro h<;>(try(have h0:=h;simp only[bH]at h)))|fail)<;>(try simp -implicitDefEqProofs (disch:=first|exact dd|fail)[Tryz.f250])))
 refine AL_fors (σ:=Unit) 13 f.inodes.length (fun i _ => [(5, .int .i64 (ownN u (allB (f.inodes.take i))))]) (fun _ _ => []) (fun i _=>True) () (by simp [allB,ownN]) trivial (fun i _ n hlt _ ih => ?_) (fun _ n _ => ?_)
 ·have hsn:=hs.inode _ (List.getElem_mem hlt)
  have hbl:=hsn.blocks
  have hal:=allB_take hlt
  have hb1:=hbd i
  have hi:=ih () trivial
  rw [hal,ownN_append] at hi
  have ho:=ownN_le (u:=u) (B:=allB (f.inodes.take i))
  generalize hx:f.inodes[i]=x at *
  generalize ownN u (allB (f.inodes.take i))=p at *
  (try simp -implicitDefEqProofs (disch:=first|exact dd|fail)[Tryz.f250,hlt,hx,cInode]);(repeat'((with_reducible first|(refine Br.out ?_ ?_<;>intro h<;>(try(have h0:=h;simp only[bH]at h)))|fail)<;>(try simp -implicitDefEqProofs (disch:=first|exact dd|fail)[Tryz.f250,hlt,hx,cInode])))
  refine AL_fors (σ:=Unit) 20 x.blocks.length (fun j _ => [(5, .int .i64 ((p + ownN u (real (x.blocks.take j)):Nat):Int))]) (fun j _ => []) (fun j _=>True) () (by simp [real,ownN]) trivial (fun j _ n hjt _ jh => ?_) (fun _ n _ => ?_)
  ·have hj:=jh () trivial
   have hr:=real_take hjt
   have ho2:=ownN_le (u:=u) (B:=real (x.blocks.take j))
   have hrl:=real_len (l:=x.blocks.take j)
   rw [List.length_take] at hrl
   by_cases hb:x.blocks[j] = -1
   ·rw [if_pos hb] at hr
    rw [hr] at hj
    generalize ownN u (real (x.blocks.take j))=q at *
    (try simp -implicitDefEqProofs (disch:=first|exact dd|fail)[Tryz.f250,hlt,hjt,hx,hb,cInode]);(repeat'((with_reducible first|(refine Br.out ?_ ?_<;>intro h<;>(try(have h0:=h;simp only[bH]at h)))|fail)<;>(try simp -implicitDefEqProofs (disch:=first|exact dd|fail)[Tryz.f250,hlt,hjt,hx,hb,cInode])))
    all_goals first | exact hj
   ·rw [if_neg hb] at hr
    rw [hr,ownN_append,ownN_one] at hj
    generalize ownN u (real (x.blocks.take j))=q at *
    by_cases hw:ownerOf x.blocks[j]=u
    ·rw [if_pos hw] at hj
     (try simp -implicitDefEqProofs (disch:=first|exact dd|fail)[Tryz.f250,hlt,hjt,hx,hb,hw,cInode]);(repeat'((with_reducible first|(refine Br.out ?_ ?_<;>intro h<;>(try(have h0:=h;simp only[bH]at h)))|refine AC_snd (spec_BlockOwner _) ?_|fail)<;>(try simp -implicitDefEqProofs (disch:=first|exact dd|fail)[Tryz.f250,hlt,hjt,hx,hb,hw,cInode])))
     all_goals first | exact hj
    ·rw [if_neg hw] at hj
     (try simp -implicitDefEqProofs (disch:=first|exact dd|fail)[Tryz.f250,hlt,hjt,hx,hb,hw,cInode]);(repeat'((with_reducible first|(refine Br.out ?_ ?_<;>intro h<;>(try(have h0:=h;simp only[bH]at h)))|refine AC_snd (spec_BlockOwner _) ?_|fail)<;>(try simp -implicitDefEqProofs (disch:=first|exact dd|fail)[Tryz.f250,hlt,hjt,hx,hb,hw,cInode])))
     all_goals first | exact hj
  ·rw [List.take_length]
   (try simp -implicitDefEqProofs (disch:=first|exact dd|fail)[Tryz.f250]);(repeat'((with_reducible first|(refine Br.out ?_ ?_<;>intro h<;>(try(have h0:=h;simp only[bH]at h)))|fail)<;>(try simp -implicitDefEqProofs (disch:=first|exact dd|fail)[Tryz.f250])))
   all_goals first | exact hi
 ·rw [List.take_length]
  (try simp -implicitDefEqProofs (disch:=first|exact dd|fail)[Tryz.f250]);(repeat'((with_reducible first|(refine Br.out ?_ ?_<;>intro h<;>(try(have h0:=h;simp only[bH]at h)))|fail)<;>(try simp -implicitDefEqProofs (disch:=first|exact dd|fail)[Tryz.f250])))
theorem used_inR {ns:List DInode} (hin:∀ n ∈ ns,IsInode n) (h:∀ n ∈ ns,OwnOK n):InR ns:=fun n hn b hb hne=>
 owner_range (h n hn b hb hne) (inode_used (hin n hn) (List.length_pos_of_mem hb)).uid.1
theorem spec_l08NextBlock (n1 n2 n3:Option Bool) (f:DFS) (u:Int) (hs:SmF f) (hin:∀ n ∈ f.inodes,IsInode n) (hus:UsedOK f.inodes) (hu:IsUser u) (hq:f.quotas.length=4) (hn:f.inodes.length=20):Snd Tryz.prog 192 [fFS n1 n2 n3 f, .int .i64 u] (.tup [.int .i64 (nextB f u).1, .int .i64 (nextB f u).2]) [.unk, .unk]:=Runs.snd (M:=M) (c:=⟨2,[2,4,5,6,7,9,20,38,45],[],[]⟩) tok ks mixed Tryz.func192 (p := []) (by kernel_rfl) (by rfl) (by rfl) <| by
 have hb:=fun a b d=>spec_l08Blocks a b d f u hs hn
 have hp:=ownN_pool hu hus.2 (allB_inR (used_inR hin hus.1))
 simp only [hp] at hb
 have ht:=fun a b d=>spec_l08Used a b d f hs hin
 rw [usedR_yes hus,tr_yes hus] at ht
 obtain ⟨k,rfl⟩:=Int.eq_ofNat_of_zero_le hu.1
 have hk:k < 4:=by omega
 have hkq:k < f.quotas.length:=by omega
 have hq2:=quotaAt_nat hkq
 simp only [Int.toNat_natCast] at hb
 unfold nextB
 simp only [hq2,Int.toNat_natCast]
 by_cases hc:f.quotas[k].blocks≤((poolT (allB f.inodes) (14 * k) 14:Nat):Int)
 ·rw [if_pos hc]
  (try simp -implicitDefEqProofs (disch:=first|exact dd|fail)[Tryz.f192,hkq,hc,cQuota]);(repeat'((with_reducible first|(refine Br.out ?_ ?_<;>intro h<;>(try(have h0:=h;simp only[bH]at h)))|refine AC_snd (hb _ _ _) ?_|fail)<;>(try simp -implicitDefEqProofs (disch:=first|exact dd|fail)[Tryz.f192,hkq,hc,cQuota])))
 rw [if_neg hc]
 have hget:=fun j=>usedL_get (bs:=allB f.inodes) (k:=j)
 have hlu:(usedL (allB f.inodes)).length=56:=usedL_len
 generalize usedL (allB f.inodes)=U at *
 (try simp -implicitDefEqProofs (disch:=first|exact dd|fail)[Tryz.f192,hkq,hc,hlu,cQuota]);(repeat'((with_reducible first|(refine Br.out ?_ ?_<;>intro h<;>(try(have h0:=h;simp only[bH]at h)))|refine AC_snd (hb _ _ _) ?_|refine AC_snd (ht _ _ _) ?_|fail)<;>(try simp -implicitDefEqProofs (disch:=first|exact dd|fail)[Tryz.f192,hkq,hc,hlu,cQuota])))
 have e1:(k:Int) * 14=((14 * k:Nat):Int):=by omega
 rw [e1]
 refine AL_up (fun q=>14 * k + 14 - q) (fun (q:Nat) => [(9, .int .i64 (q:Int))]) (fun _ => []) (fun q=>(14 * k≤q∧q≤14 * k + 14)∧nextFree (allB f.inodes) q (14 * k + 14 - q)=nextFree (allB f.inodes) (14 * k) 14) (14 * k) rfl ⟨by omega,by rw [show 14 * k + 14 - 14 * k=14 by omega]⟩ ?_
 rintro q n ⟨⟨hq0,hq1⟩,he⟩ ih
 rcases Nat.lt_or_ge q (14 * k + 14) with hjt | hjt
 ·have hg:=hget q (by omega)
  have hst:nextFree (allB f.inodes) q (14 * k + 14 - q)=if (q:Int) ∈ allB f.inodes then nextFree (allB f.inodes) (q + 1) (14 * k + 14 - (q + 1)) else ((q:Int),0):=by
   rw [show 14 * k + 14 - q=(14 * k + 14 - (q + 1)) + 1 by omega,nextFree]
  by_cases hm:(q:Int) ∈ allB f.inodes
  ·rw [decide_eq_true hm] at hg
   rw [if_pos hm] at hst
   have hi:=ih (q + 1) ⟨by omega,by rw [←hst];exact he⟩ (by omega)
   have hgv:=(List.getElem?_eq_some_iff.1 hg).2
   (try simp -implicitDefEqProofs (disch:=first|exact dd|fail)[Tryz.f192,hg,hgv,hlu,cb,hjt]);(repeat'((with_reducible first|(refine Br.out ?_ ?_<;>intro h<;>(try(have h0:=h;simp only[bH]at h)))|fail)<;>(try simp -implicitDefEqProofs (disch:=first|exact dd|fail)[Tryz.f192,hg,hgv,hlu,cb,hjt])))
   all_goals first | exact hi
  ·rw [decide_eq_false hm] at hg
   rw [if_neg hm] at hst
   rw [←he,hst]
   have hgv:=(List.getElem?_eq_some_iff.1 hg).2
   (try simp -implicitDefEqProofs (disch:=first|exact dd|fail)[Tryz.f192,hg,hgv,hlu,cb,hjt]);(repeat'((with_reducible first|(refine Br.out ?_ ?_<;>intro h<;>(try(have h0:=h;simp only[bH]at h)))|fail)<;>(try simp -implicitDefEqProofs (disch:=first|exact dd|fail)[Tryz.f192,hg,hgv,hlu,cb,hjt])))
 ·obtain rfl:q=14 * k + 14:=by omega
  rw [←he,Nat.sub_self,nextFree]
  (try simp -implicitDefEqProofs (disch:=first|exact dd|fail)[Tryz.f192,hlu,cb]);(repeat'((with_reducible first|(refine Br.out ?_ ?_<;>intro h<;>(try(have h0:=h;simp only[bH]at h)))|fail)<;>(try simp -implicitDefEqProofs (disch:=first|exact dd|fail)[Tryz.f192,hlu,cb])))
set_option maxHeartbeats 4000000
set_option maxRecDepth 8000
theorem impl_write (f:DFS) (i a:Int) (s:Str) (hs:SmF f) (hf:IsFS f) (hi:hasI f i=true) (hl:s.length≤1048576) (ha:a≤9223372036854775807):Snd Tryz.prog 167 [wFS f, .int .i64 i, .int .i64 a, .str s] (.int .i64 (writeF f i a s).2) [wFS (writeF f i a s).1, .unk, .unk, .unk]:=Runs.snd (M:=M) (c:=⟨4,[8,9,10,11,12,13,14,15,16,17,18,21,31,63,79,89,100],[],[(4,[0,1,2,3,8,9,10,11,18,21,31,63,79,89,100])]⟩) tok ks mixed Tryz.func167 (p := [0]) (by kernel_rfl) (by rfl) (by rfl) <| by
 have hi':=hasI_lt hi
 obtain ⟨I,rfl⟩:=Int.eq_ofNat_of_zero_le hi'.1
 have hI:I < 20:=by omega
 have hlt:I < f.inodes.length:=by rw [hf.ni];omega
 have he:=inodeAt_nat hlt
 have hok:=(isInode_ok hi'.2.2).1 (hf.sm _ ⟨hi'.1,hi'.2.1⟩)
 rw [he] at hok
 by_cases h1:a < 0
 ·rw [writeF,if_pos h1]
  (try simp -implicitDefEqProofs (disch:=first|exact dd|fail)[Tryz.f167,h1]);(repeat'((with_reducible first|(refine Br.out ?_ ?_<;>intro h<;>(try(have h0:=h;simp only[bH]at h)))|fail)<;>(try simp -implicitDefEqProofs (disch:=first|exact dd|fail)[Tryz.f167,h1])))
 obtain ⟨A,rfl⟩:=Int.eq_ofNat_of_zero_le (show 0≤a by omega)
 by_cases h2:256 < (A:Int) + s.length
 ·rw [writeF,if_neg h1,if_pos h2]
  by_cases h3:(256:Int) < A
  ·(try simp -implicitDefEqProofs (disch:=first|exact dd|fail)[Tryz.f167,h1,h3]);(repeat'((with_reducible first|(refine Br.out ?_ ?_<;>intro h<;>(try(have h0:=h;simp only[bH]at h)))|fail)<;>(try simp -implicitDefEqProofs (disch:=first|exact dd|fail)[Tryz.f167,h1,h3])))
  ·have h4:(256:Int) - A < s.length:=by omega
   (try simp -implicitDefEqProofs (disch:=first|exact dd|fail)[Tryz.f167,h1,h3,h4]);(repeat'((with_reducible first|(refine Br.out ?_ ?_<;>intro h<;>(try(have h0:=h;simp only[bH]at h)))|fail)<;>(try simp -implicitDefEqProofs (disch:=first|exact dd|fail)[Tryz.f167,h1,h3,h4])))
 have h3:¬ (256:Int) < A:=by omega
 have h4:¬ (256:Int) - A < s.length:=by omega
 by_cases h5:s = []
 ·rw [writeF,if_neg h1,if_neg h2,if_pos h5]
  (try simp -implicitDefEqProofs (disch:=first|exact dd|fail)[Tryz.f167,h1,h3,h4,h5]);(repeat'((with_reducible first|(refine Br.out ?_ ?_<;>intro h<;>(try(have h0:=h;simp only[bH]at h)))|fail)<;>(try simp -implicitDefEqProofs (disch:=first|exact dd|fail)[Tryz.f167,h1,h3,h4,h5])))
 rw [writeF,if_neg h1,if_neg h2,if_neg h5]
 simp only [Int.toNat_natCast]
 have hst:=WI.start (e:=(A:Int) + s.length) hs hf.nq hf.ni hI (used_inR hf.inode hf.own) (List.getElem?_eq_getElem hlt) hok (by omega) hf.nd hf.secs
 have hsl:0 < s.length:=List.length_pos_iff.2 h5
 have hmx:(if f.inodes[I].size < (A:Int) + s.length then (A:Int) + s.length else f.inodes[I].size)=max f.inodes[I].size ((A:Int) + s.length):=by
  split<;>omega
 have hbn:=blocksNeeded_le (s:=max f.inodes[I].size ((A:Int) + s.length)) (by have:=hok.size;omega)
 have hbn0:=blocksNeeded_nn (s:=max f.inodes[I].size ((A:Int) + s.length))
 have hxb:=hok.blocks
 have hmono:blocksNeeded f.inodes[I].size≤blocksNeeded (max f.inodes[I].size ((A:Int) + s.length)):=by
  unfold blocksNeeded
  split<;>split<;>omega
 unfold writeL
 rw [he]
 unfold sized at hst ⊢
 (try simp -implicitDefEqProofs (disch:=first|exact dd|fail)[Tryz.f167,h1,h3,h4,h5,hlt,hmx,cInode]);(repeat'((with_reducible first|(refine Br.out ?_ ?_<;>intro h<;>(try(have h0:=h;simp only[bH]at h)))|fail)<;>(try simp -implicitDefEqProofs (disch:=first|exact dd|fail)[Tryz.f167,h1,h3,h4,h5,hlt,hmx,cInode])))
 have hszr:max f.inodes[I].size ((A:Int) + s.length)≤256:=by have:=hok.size;omega
 have hend:(A:Int) + s.length≤max f.inodes[I].size ((A:Int) + s.length):=by omega
 generalize max f.inodes[I].size ((A:Int) + s.length)=Z at *
 obtain ⟨Q,hQ⟩:=Int.eq_ofNat_of_zero_le hbn0
 rw [hQ] at hst hmono hbn ⊢
 simp only [Int.toNat_natCast] at hst ⊢
 generalize hx:f.inodes[I]=x at *
 have hgs:∀ c,((f.inodes.map cInode).set I c)[I]? = some c:=fun c=>by simp [hlt]
 refine AL_up (fun (m:Nat)=>Q - m) (fun _ => []) (fun (m:Nat) => [(6, .row 10 ((f.inodes.map cInode).set I (cInode { x with size:=Z,blocks:=growB x.blocks m })) [])]) (fun m=>x.blocks.length≤m∧m≤Q) x.blocks.length (by simp [growB_zero (Nat.le_refl _),cInode]) ⟨Nat.le_refl _,by omega⟩ ?_
 rintro m n ⟨hm0,hm1⟩ ih
 have hgl:(growB x.blocks m).length=m:=by rw [growB_len];omega
 rcases Nat.lt_or_ge m Q with hmq | hmq
 ·have hj:=ih (m + 1) ⟨by omega,by omega⟩ (by omega)
  rw [growB_step hm0] at hj
  generalize growB x.blocks m=B at *
  have htk:List.take m (List.map ci B)=List.map ci B:=List.take_of_length_le (by simp [hgl])
  simp only [cInode,List.map_append,List.map_cons,List.map_nil,ci] at hj
  (try simp -implicitDefEqProofs (disch:=first|exact dd|fail)[Tryz.f167,hlt,hgs,hmq,hgl,hQ,htk,cInode]);(repeat'((with_reducible first|(refine Br.out ?_ ?_<;>intro h<;>(try(have h0:=h;simp only[bH]at h)))|refine AC_snd (impl_BlocksNeeded _ (by omega)) ?_|fail)<;>(try simp -implicitDefEqProofs (disch:=first|exact dd|fail)[Tryz.f167,hlt,hgs,hmq,hgl,hQ,htk,cInode])))
  all_goals first | exact hj
 obtain rfl:m=Q:=by omega
 (try simp -implicitDefEqProofs (disch:=first|exact dd|fail)[Tryz.f167,hlt,hgs,hgl,hQ,cInode]);(repeat'((with_reducible first|(refine Br.out ?_ ?_<;>intro h<;>(try(have h0:=h;simp only[bH]at h)))|refine AC_snd (impl_BlocksNeeded _ (by omega)) ?_|fail)<;>(try simp -implicitDefEqProofs (disch:=first|exact dd|fail)[Tryz.f167,hlt,hgs,hgl,hQ,cInode])))
 have hAd:(A:Int) / 32=((A / 32:Nat):Int):=by omega
 rw [hAd]
 obtain ⟨W,hW⟩:∃ W,W=wLoop f I A s (wSteps A s) (A / 32) { x with size:=Z,blocks:=growB x.blocks m } f.data:=⟨_,rfl⟩
 rw [←hW]
 have hmm:(A + s.length - 1) / 32 < m:=by
  unfold blocksNeeded at hQ
  split at hQ<;>omega
 refine AL_up (ι:=Nat × DInode × List Str) (fun y=>wSteps 0 (s++s) + (A + s.length) + 40 - y.1) (fun y => [(11, .int .i64 (y.1:Int))]) (fun y => [(6, .row 10 ((f.inodes.set I y.2.1).map cInode) []),(8, .row 1 (y.2.2.map cs) [])]) (fun y=>WI f I m y.2.1 y.2.2∧y.1≤(A + s.length - 1) / 32 + 1∧A < 32 * y.1 + 32∧wLoop f I A s ((A + s.length - 1) / 32 + 1 - y.1) y.1 y.2.1 y.2.2=W) (A / 32,{ x with size:=Z,blocks:=growB x.blocks m },f.data) (by simp [cInode,List.map_set]) ⟨hst,by simp only;omega,by simp only;omega,by rw [hW];rfl⟩ ?_
 rintro ⟨k,N,D⟩ n ⟨hw,hk1,hk2,hwl⟩ ih
 simp only at hw hk1 hk2 hwl ⊢
 have hsm:=hw.smF
 have hir:=hw.inR
 have hbl:=hw.len
 have hac:=hw.acl
 have hGget:((f.inodes.set I N).map cInode)[I]? = some (cInode N):=by simp [hlt]
 have hGs:∀ c,((f.inodes.set I N).map cInode |>.set I c)[I]? = some c:=fun c=>by simp [hlt]
 have hbs:∀ c,(k < N.blocks.length)→((N.blocks.map ci).set k c)[k]? = some c:=fun c h=>by simp [h]
 have hDg:∀ b:Nat,b < 56→(D.map cs)[b]? = some (cs (D.getD b [])):=fun b h=>by simp [show b < D.length by rw [hw.nd];exact h]
 have hGset:∀ c,((f.inodes.set I N).map cInode).set I (cInode c)=(f.inodes.set I c).map cInode:=fun c=>by simp [List.map_set]
 have hGl:(f.inodes.set I N).length=f.inodes.length:=by rw [List.length_set]
 have hDl:D.length=f.data.length:=by rw [hw.nd,hf.nd]
 have hnd:=hw.nd
 have htG:=takeM (f:=cInode) hGl
 have htD:=takeM (f:=cs) hDl
 have hI20:I < 20:=hI
 rcases Nat.lt_or_ge ((A + s.length - 1) / 32) k with hkt | hkt
 ·obtain rfl:k=(A + s.length - 1) / 32 + 1:=by omega
  rw [Nat.sub_self,wLoop] at hwl
  subst hwl
  generalize f.inodes.set I N=G at *
  (try simp -implicitDefEqProofs (disch:=first|exact dd|fail)[Tryz.f167,hlt,hGl,hDl,cInode]);(repeat'((with_reducible first|(refine Br.out ?_ ?_<;>intro h<;>(try(have h0:=h;simp only[bH]at h)))|fail)<;>(try simp -implicitDefEqProofs (disch:=first|exact dd|fail)[Tryz.f167,hlt,hGl,hDl,cInode])))
 have hkl:k < N.blocks.length:=by omega
 have hst2:(A + s.length - 1) / 32 + 1 - k=((A + s.length - 1) / 32 + 1 - (k + 1)) + 1:=by omega
 rw [hst2,wLoop] at hwl
 have hgd:N.blocks.getD k 0=N.blocks[k]:=by simp [hkl]
 have hwk:wBlk f I N k=if N.blocks[k] = -1 then nextB ⟨f.tick,f.quotas,f.inodes.set I N,D⟩ N.uid else (N.blocks[k],0):=by
  rw [wBlk,hgd]
  rfl
 have hfr:(if (A:Int) < (k:Int) * 32 then (k:Int) * 32 else (A:Int))=((wFrom A k:Nat):Int):=by
  unfold wFrom
  split<;>omega
 have hto:(if (k:Int) * 32 + 32 < (A:Int) + s.length then (k:Int) * 32 + 32 else (A:Int) + s.length)=((wTo A k s:Nat):Int):=by
  unfold wTo
  split<;>omega
 have hb1:32 * k≤wFrom A k∧A≤wFrom A k∧wFrom A k < wTo A k s∧wTo A k s≤A + s.length∧wTo A k s≤32 * k + 32:=by
  unfold wFrom wTo
  omega
 have hnx:=impl_nextBlock none none none ⟨f.tick,f.quotas,f.inodes.set I N,D⟩ N.uid hsm hir hw.uid hw.nq
 have hok2:=fun h0=>wBlk_ok hw (by omega:k < m) h0
 have hstep:=fun h0=>hw.step (by omega:k < m) h0 hk2 (by omega:32 * k < A + s.length)
 by_cases hb:N.blocks[k] = -1
 ·rw [if_pos hb] at hwk
  generalize nextB ⟨f.tick,f.quotas,f.inodes.set I N,D⟩ N.uid=r at *
  rw [hwk] at hwl hok2 hstep
  obtain ⟨B,e⟩:=r
  simp only at hwl hok2 hstep hnx
  by_cases he0:e=0
  ·subst he0
   obtain ⟨b,rfl,hb56⟩:=hok2 rfl
   rw [if_pos rfl] at hwl
   have hj:=ih (k + 1,wN N k b,wD D b A k s) ⟨hstep rfl,by simp only;omega,by simp only;omega,hwl⟩ (by simp only;omega)
   generalize f.inodes.set I N=G at *
   have hbs:=fun c=>hbs c hkl
   have hbD:b < D.length:=by omega
   have hOl:=hw.secs _ (List.getElem_mem hbD)
   obtain ⟨O,hO⟩:∃ O,D[b]=O:=⟨_,rfl⟩
   rw [hO] at hOl
   (try simp -implicitDefEqProofs (disch:=first|exact dd|fail)[Tryz.f167,hlt,hkl,hkt,hGget,hGs,hbs,hO,hOl,htG,htD,hGl,hDl,hnd,hb,hb56,hfr,hto,cInode]);(repeat'((with_reducible first|(refine Br.out ?_ ?_<;>intro h<;>(try(have h0:=h;simp only[bH]at h)))|refine AC_snd (hnx) ?_|fail)<;>(try simp -implicitDefEqProofs (disch:=first|exact dd|fail)[Tryz.f167,hlt,hkl,hkt,hGget,hGs,hbs,hO,hOl,htG,htD,hGl,hDl,hnd,hb,hb56,hfr,hto,cInode])))
   have h6:(List.map cInode G).set I [.int .i64 N.kind, .int .i64 N.mode, .int .i64 N.uid, .int .i64 N.gid, .int .i64 N.links, .int .i64 N.size, .int .i64 N.tick, .row 1 ((List.map ci N.blocks).set k [.int .i64 b]), .row 3 (N.acl.map cAcl), .row 3 (N.dflt.map cAcl)]=(f.inodes.set I (wN N k b)).map cInode:=by
    rw [←hGset (wN N k b)]
    simp only [cInode,wN,List.map_set,ci]
   have h8:=wD_cells hbD hO hOl hb1
   rw [←h6,←h8] at hj
   all_goals first | exact hj
  ·rw [if_neg he0] at hwl
   subst hwl
   generalize f.inodes.set I N=G at *
   (try simp -implicitDefEqProofs (disch:=first|exact dd|fail)[Tryz.f167,hlt,hkl,hkt,hGget,htG,htD,hGl,hDl,hb,he0,cInode]);(repeat'((with_reducible first|(refine Br.out ?_ ?_<;>intro h<;>(try(have h0:=h;simp only[bH]at h)))|refine AC_snd (hnx) ?_|fail)<;>(try simp -implicitDefEqProofs (disch:=first|exact dd|fail)[Tryz.f167,hlt,hkl,hkt,hGget,htG,htD,hGl,hDl,hb,he0,cInode])))
 ·rw [if_neg hb] at hwk
  rw [hwk,if_pos rfl] at hwl
  rw [hwk] at hok2 hstep
  obtain ⟨b,hbk,hb56⟩:=hok2 rfl
  simp only at hbk hstep
  have hj:=ih (k + 1,wN N k N.blocks[k],wD D N.blocks[k] A k s) ⟨hstep trivial,by simp only;omega,by simp only;omega,hwl⟩ (by simp only;omega)
  rw [wN_same hkl rfl] at hj
  rw [hbk] at hj
  have hb':¬ (b:Int) = -1:=by omega
  have hbD:b < D.length:=by omega
  have hOl:=hw.secs _ (List.getElem_mem hbD)
  obtain ⟨O,hO⟩:∃ O,D[b]=O:=⟨_,rfl⟩
  rw [hO] at hOl
  generalize f.inodes.set I N=G at *
  (try simp -implicitDefEqProofs (disch:=first|exact dd|fail)[Tryz.f167,hlt,hkl,hkt,hGget,hO,hOl,hbk,hb',htG,htD,hGl,hDl,hnd,hb56,hfr,hto,cInode]);(repeat'((with_reducible first|(refine Br.out ?_ ?_<;>intro h<;>(try(have h0:=h;simp only[bH]at h)))|fail)<;>(try simp -implicitDefEqProofs (disch:=first|exact dd|fail)[Tryz.f167,hlt,hkl,hkt,hGget,hO,hOl,hbk,hb',htG,htD,hGl,hDl,hnd,hb56,hfr,hto,cInode])))
  have h8:=wD_cells hbD hO hOl hb1
  simp only at hj
  rw [←h8] at hj
  all_goals first | exact hj
set_option maxHeartbeats 4000000
set_option maxRecDepth 8000
theorem spec_l02Max (a b:Int):Snd Tryz.prog 242 [.int .i64 a, .int .i64 b] (.int .i64 (max a b)) [.unk, .unk]:=Runs.snd (M:=M) (c:=⟨2,[4,7],[],[]⟩) tok ks mixed Tryz.func242 (p := []) (by kernel_rfl) (by rfl) (by rfl) <| by
 (try simp -implicitDefEqProofs (disch:=first|exact dd|fail)[Tryz.f242]);(repeat'((with_reducible first|(refine Br.out ?_ ?_<;>intro h<;>(try(have h0:=h;simp only[bH]at h)))|fail)<;>(try simp -implicitDefEqProofs (disch:=first|exact dd|fail)[Tryz.f242])))
 all_goals omega
theorem spec_l02Min (a b:Int):Snd Tryz.prog 259 [.int .i64 a, .int .i64 b] (.int .i64 (min a b)) [.unk, .unk]:=Runs.snd (M:=M) (c:=⟨2,[4,7],[],[]⟩) tok ks mixed Tryz.func259 (p := []) (by kernel_rfl) (by rfl) (by rfl) <| by
 (try simp -implicitDefEqProofs (disch:=first|exact dd|fail)[Tryz.f259]);(repeat'((with_reducible first|(refine Br.out ?_ ?_<;>intro h<;>(try(have h0:=h;simp only[bH]at h)))|fail)<;>(try simp -implicitDefEqProofs (disch:=first|exact dd|fail)[Tryz.f259])))
 all_goals omega
theorem putS_take {old s:Str} {a k:Nat} (h:a + k < old.length) (hk:k < s.length):(putS old a (a + k) (s.take k)).set (a + k) s[k]=putS old a (a + (k + 1)) (s.take (k + 1)):=by
 have hl:(old.take a++s.take k).length=a + k:=by simp;omega
 have hd:old.drop (a + k)=old[a + k] :: old.drop (a + (k + 1)):=List.drop_eq_getElem_cons h
 unfold putS
 rw [hd,List.set_append_right _ _ (by omega),hl,Nat.sub_self,List.set_cons_zero,List.take_succ_eq_append_getElem hk]
 simp only [List.append_assoc,List.cons_append,List.nil_append]
theorem spec_l09Put (old s:Str) (a:Nat) (h:a + s.length≤old.length) (ho:old.length≤1048576):Snd Tryz.prog 260 [.str old, .int .i64 a, .str s] (.str (putS old a (a + s.length) s)) [.unk, .unk, .unk]:=Runs.snd (M:=M) (c:=⟨3,[6,7,8,14],[],[]⟩) tok ks mixed Tryz.func260 (p := []) (by kernel_rfl) (by rfl) (by rfl) <| by
 (try simp -implicitDefEqProofs (disch:=first|exact dd|fail)[Tryz.f260,l2b]);(repeat'((with_reducible first|(refine Br.out ?_ ?_<;>intro h<;>(try(have h0:=h;simp only[bH]at h)))|fail)<;>(try simp -implicitDefEqProofs (disch:=first|exact dd|fail)[Tryz.f260,l2b])))
 have h0:old=putS old a (a + 0) (s.take 0):=by simp [putS]
 refine AL_fors (σ:=Unit) 8 s.length (fun _ _ => []) (fun k _ => [(896, .row 1 ((putS old a (a + k) (s.take k)).map cu) [])]) (fun _ _=>True) () (by rw [←h0];rfl) trivial (fun k _ n hk _ ih => ?_) (fun _ n _ => ?_)
 ·have hj:=ih () trivial
  have hl:(putS old a (a + k) (s.take k)).length=old.length:=by simp only [putS,List.length_append,List.length_take,List.length_drop];omega
  rw [←putS_take (by omega) hk,List.map_set] at hj
  have hn:((a:Int) + (k:Int)).toNat=a + k:=by omega
  generalize putS old a (a + k) (s.take k)=U at *
  have hu:a + k < U.length:=by omega
  (try simp -implicitDefEqProofs (disch:=first|exact dd|fail)[Tryz.f260,hn,hu,hl,hk]);(repeat'((with_reducible first|(refine Br.out ?_ ?_<;>intro h<;>(try(have h0:=h;simp only[bH]at h)))|fail)<;>(try simp -implicitDefEqProofs (disch:=first|exact dd|fail)[Tryz.f260,hn,hu,hl,hk])))
  all_goals first | exact hj
 ·rw [List.take_length]
  have hb:=b2l (putS old a (a + s.length) s)
  have hl:(putS old a (a + s.length) s).length=old.length:=by simp only [putS,List.length_append,List.length_take,List.length_drop];omega
  have ht:=takeM (f:=cu) hl
  generalize putS old a (a + s.length) s=U at *
  (try simp -implicitDefEqProofs (disch:=first|exact dd|fail)[Tryz.f260,hb,hl,ht]);(repeat'((with_reducible first|(refine Br.out ?_ ?_<;>intro h<;>(try(have h0:=h;simp only[bH]at h)))|fail)<;>(try simp -implicitDefEqProofs (disch:=first|exact dd|fail)[Tryz.f260,hb,hl,ht])))
theorem spec_l09Write (n1 n2 n3:Option Bool) (f:DFS) (i a:Int) (s:Str) (hs:SmF f) (hf:IsFS f) (hi:hasI f i=true) (hl:s.length≤1048576) (ha:a≤9223372036854775807):Snd Tryz.prog 221 [fFS n1 n2 n3 f, .int .i64 i, .int .i64 a, .str s] (.tup [rFS (if (writeF f i a s).2=0 then (writeF f i a s).1 else f), .int .i64 (writeF f i a s).2]) [.unk, .unk, .unk, .unk]:=Runs.snd (M:=M) (c:=⟨4,[4,8,9,10,11,12,13,14,15,16,18,25,31,53,67,75,84],[],[(3,[0,1,2,3,4,8,9,10,11,12,18,25,31,53,67,75,84])]⟩) tok ks mixed Tryz.func221 (p := []) (by kernel_rfl) (by rfl) (by rfl) <| by
 have hi':=hasI_lt hi
 obtain ⟨I,rfl⟩:=Int.eq_ofNat_of_zero_le hi'.1
 have hI:I < 20:=by omega
 have hlt:I < f.inodes.length:=by rw [hf.ni];omega
 have he:=inodeAt_nat hlt
 have hok:=(isInode_ok hi'.2.2).1 (hf.sm _ ⟨hi'.1,hi'.2.1⟩)
 rw [he] at hok
 by_cases h1:a < 0
 ·rw [writeF,if_pos h1,if_neg (by simp)]
  (try simp -implicitDefEqProofs (disch:=first|exact dd|fail)[Tryz.f221,h1]);(repeat'((with_reducible first|(refine Br.out ?_ ?_<;>intro h<;>(try(have h0:=h;simp only[bH]at h)))|refine AC_snd (spec_l08Copy _ _ _ f hs) ?_|fail)<;>(try simp -implicitDefEqProofs (disch:=first|exact dd|fail)[Tryz.f221,h1])))
 obtain ⟨A,rfl⟩:=Int.eq_ofNat_of_zero_le (show 0≤a by omega)
 by_cases h2:256 < (A:Int) + s.length
 ·rw [writeF,if_neg h1,if_pos h2,if_neg (by simp)]
  have h4:(256:Int) - s.length < A:=by omega
  (try simp -implicitDefEqProofs (disch:=first|exact dd|fail)[Tryz.f221,h1,h4]);(repeat'((with_reducible first|(refine Br.out ?_ ?_<;>intro h<;>(try(have h0:=h;simp only[bH]at h)))|refine AC_snd (spec_l08Copy _ _ _ f hs) ?_|fail)<;>(try simp -implicitDefEqProofs (disch:=first|exact dd|fail)[Tryz.f221,h1,h4])))
 have h4:¬ (256:Int) - s.length < A:=by omega
 by_cases h5:s = []
 ·rw [writeF,if_neg h1,if_neg h2,if_pos h5,if_pos rfl]
  (try simp -implicitDefEqProofs (disch:=first|exact dd|fail)[Tryz.f221,h1,h4,h5]);(repeat'((with_reducible first|(refine Br.out ?_ ?_<;>intro h<;>(try(have h0:=h;simp only[bH]at h)))|refine AC_snd (spec_l08Copy _ _ _ f hs) ?_|fail)<;>(try simp -implicitDefEqProofs (disch:=first|exact dd|fail)[Tryz.f221,h1,h4,h5])))
 rw [writeF,if_neg h1,if_neg h2,if_neg h5]
 simp only [Int.toNat_natCast]
 have hst:=WI.start (e:=(A:Int) + s.length) hs hf.nq hf.ni hI (used_inR hf.inode hf.own) (List.getElem?_eq_getElem hlt) hok (by omega) hf.nd hf.secs
 have hwv:=WV.start (e:=(A:Int) + s.length) hlt rfl hok (by omega) hf.own hf.once
 have hsl:0 < s.length:=List.length_pos_iff.2 h5
 have hbn:=blocksNeeded_le (s:=max f.inodes[I].size ((A:Int) + s.length)) (by have:=hok.size;omega)
 have hbn0:=blocksNeeded_nn (s:=max f.inodes[I].size ((A:Int) + s.length))
 have hxb:=hok.blocks
 have hmono:blocksNeeded f.inodes[I].size≤blocksNeeded (max f.inodes[I].size ((A:Int) + s.length)):=by
  unfold blocksNeeded
  split<;>split<;>omega
 unfold writeL
 rw [he]
 unfold sized at hst hwv ⊢
 have hszr:max f.inodes[I].size ((A:Int) + s.length)≤256:=by have:=hok.size;omega
 have hend:(A:Int) + s.length≤max f.inodes[I].size ((A:Int) + s.length):=by omega
 have hmaxc:=spec_l02Max f.inodes[I].size ((A:Int) + s.length)
 generalize max f.inodes[I].size ((A:Int) + s.length)=Z at *
 have hsn:=hs.inode _ (List.getElem_mem hlt)
 (try simp -implicitDefEqProofs (disch:=first|exact dd|fail)[Tryz.f221,h1,h4,h5,hlt,cInode]);(repeat'((with_reducible first|(refine Br.out ?_ ?_<;>intro h<;>(try(have h0:=h;simp only[bH]at h)))|refine AC_snd (spec_l08Copy _ _ _ f hs) ?_|refine AC_snd (spec_l07Copy _ _ _ f.inodes[I] hsn) ?_|refine AC_snd (hmaxc) ?_|fail)<;>(try simp -implicitDefEqProofs (disch:=first|exact dd|fail)[Tryz.f221,h1,h4,h5,hlt,cInode])))
 obtain ⟨Q,hQ⟩:=Int.eq_ofNat_of_zero_le hbn0
 rw [hQ] at hst hwv hmono hbn ⊢
 simp only [Int.toNat_natCast] at hst hwv ⊢
 have hxv:IsInode f.inodes[I] := .inr hok
 have hxs:f.inodes.set I f.inodes[I]=f.inodes:=List.set_getElem_self hlt
 generalize hx:f.inodes[I]=x at *
 refine AL_up (fun (m:Nat)=>Q - m) (fun _ => []) (fun (m:Nat) => [(1408, .box [.int .i64 x.kind, .int .i64 x.mode, .int .i64 x.uid, .int .i64 x.gid, .int .i64 x.links, .int .i64 Z, .int .i64 x.tick, .ref 1424 none 1 0 m none, .ref 1426 none 3 0 x.acl.length none, .ref 1428 none 3 0 x.dflt.length none]),(1424, .row 1 ((growB x.blocks m).map ci) [])]) (fun m=>x.blocks.length≤m∧m≤Q) x.blocks.length (by simp [growB_zero (Nat.le_refl _)]) ⟨Nat.le_refl _,by omega⟩ ?_
 rintro m n ⟨hm0,hm1⟩ ih
 have hgl:(growB x.blocks m).length=m:=by rw [growB_len];omega
 rcases Nat.lt_or_ge m Q with hmq | hmq
 ·have hj:=ih (m + 1) ⟨by omega,by omega⟩ (by omega)
  rw [growB_step hm0] at hj
  generalize growB x.blocks m=B at *
  have htk:List.take m (List.map ci B)=List.map ci B:=List.take_of_length_le (by simp [hgl])
  simp only [List.map_append,List.map_cons,List.map_nil,ci] at hj
  (try simp -implicitDefEqProofs (disch:=first|exact dd|fail)[Tryz.f221,hlt,hmq,hgl,hQ,htk,cInode]);(repeat'((with_reducible first|(refine Br.out ?_ ?_<;>intro h<;>(try(have h0:=h;simp only[bH]at h)))|refine AC_snd (spec_BlocksNeeded _ (by omega)) ?_|fail)<;>(try simp -implicitDefEqProofs (disch:=first|exact dd|fail)[Tryz.f221,hlt,hmq,hgl,hQ,htk,cInode])))
  all_goals first | exact hj
 obtain rfl:m=Q:=by omega
 (try simp -implicitDefEqProofs (disch:=first|exact dd|fail)[Tryz.f221,hlt,hgl,hQ,cInode]);(repeat'((with_reducible first|(refine Br.out ?_ ?_<;>intro h<;>(try(have h0:=h;simp only[bH]at h)))|refine AC_snd (spec_BlocksNeeded _ (by omega)) ?_|fail)<;>(try simp -implicitDefEqProofs (disch:=first|exact dd|fail)[Tryz.f221,hlt,hgl,hQ,cInode])))
 have hAd:(A:Int) / 32=((A / 32:Nat):Int):=by omega
 rw [hAd]
 obtain ⟨W,hW⟩:∃ W,W=wLoop f I A s (wSteps A s) (A / 32) { x with size:=Z,blocks:=growB x.blocks m } f.data:=⟨_,rfl⟩
 rw [←hW]
 have hmm:(A + s.length - 1) / 32 < m:=by
  unfold blocksNeeded at hQ
  split at hQ<;>omega
 refine AL_up (ι:=Nat × DInode × List Str × DInode) (fun y=>(A + s.length) + 40 - y.1) (fun y => [(12, .int .i64 (y.1:Int))]) (fun y => [(1286, .row 10 ((f.inodes.set I y.2.2.2).map cInode) []),(1288, .row 1 (y.2.2.1.map cs) []),(1408, .box [.int .i64 y.2.1.kind, .int .i64 y.2.1.mode, .int .i64 y.2.1.uid, .int .i64 y.2.1.gid, .int .i64 y.2.1.links, .int .i64 y.2.1.size, .int .i64 y.2.1.tick, .ref 1424 none 1 0 m none, .ref 1426 none 3 0 y.2.1.acl.length none, .ref 1428 none 3 0 y.2.1.dflt.length none]),(1424, .row 1 (y.2.1.blocks.map ci) []),(1426, .row 3 (y.2.1.acl.map cAcl) []),(1428, .row 3 (y.2.1.dflt.map cAcl) [])]) (fun y=>WI f I m y.2.1 y.2.2.1∧WV f.inodes I y.2.1∧(IsInode y.2.2.2∧real y.2.2.2.blocks=real y.2.1.blocks∧y.2.2.2.uid=y.2.1.uid∧SmI y.2.2.2)∧y.1≤(A + s.length - 1) / 32 + 1∧A < 32 * y.1 + 32∧wLoop f I A s ((A + s.length - 1) / 32 + 1 - y.1) y.1 y.2.1 y.2.2.1=W) (A / 32,{ x with size:=Z,blocks:=growB x.blocks m },f.data,x) (by simp [hxs]) ⟨hst,hwv,⟨hxv,by simp only;exact real_growB.symm,rfl,hsn⟩,by simp only;omega,by simp only;omega,by rw [hW];rfl⟩ ?_
 rintro ⟨k,N,D,O⟩ n ⟨hw,hv,⟨hov,hor,hou,hos⟩,hk1,hk2,hwl⟩ ih
 simp only at hw hv hov hor hou hos hk1 hk2 hwl ⊢
 have hbl:=hw.len
 have hac:=hw.acl
 have hGget:((f.inodes.set I O).map cInode)[I]? = some (cInode O):=by simp [hlt]
 have hGs:∀ c,((f.inodes.set I O).map cInode |>.set I c)[I]? = some c:=fun c=>by simp [hlt]
 have hGset:∀ c,((f.inodes.set I O).map cInode).set I (cInode c)=(f.inodes.set I c).map cInode:=fun c=>by simp [List.map_set]
 have hGl:(f.inodes.set I O).length=f.inodes.length:=by rw [List.length_set]
 have hGl2:(f.inodes.set I N).length=f.inodes.length:=by rw [List.length_set]
 have hDl:D.length=f.data.length:=by rw [hw.nd,hf.nd]
 have hnd:=hw.nd
 have htG:=takeM (f:=cInode) hGl
 have htD:=takeM (f:=cs) hDl
 have hI20:I < 20:=hI
 rcases Nat.lt_or_ge ((A + s.length - 1) / 32) k with hkt | hkt
 ·obtain rfl:k=(A + s.length - 1) / 32 + 1:=by omega
  rw [Nat.sub_self,wLoop] at hwl
  subst hwl
  have hGN:=hGset N
  simp only [cInode] at hGN
  simp only [if_true]
  generalize f.inodes.set I O=G at *
  generalize f.inodes.set I N=G2 at *
  (try simp -implicitDefEqProofs (disch:=first|exact dd|fail)[Tryz.f221,hlt,hGl,hGl2,hDl,hbl,hGN,cInode]);(repeat'((with_reducible first|(refine Br.out ?_ ?_<;>intro h<;>(try(have h0:=h;simp only[bH]at h)))|fail)<;>(try simp -implicitDefEqProofs (disch:=first|exact dd|fail)[Tryz.f221,hlt,hGl,hGl2,hDl,hbl,hGN,cInode])))
 have hkl:k < N.blocks.length:=by omega
 have hst2:(A + s.length - 1) / 32 + 1 - k=((A + s.length - 1) / 32 + 1 - (k + 1)) + 1:=by omega
 rw [hst2,wLoop] at hwl
 have hgd:N.blocks.getD k 0=N.blocks[k]:=by simp [hkl]
 have hal:allB (f.inodes.set I O)=allB (f.inodes.set I N):=allB_set_congr hlt hor
 have hin:∀ m ∈ f.inodes.set I O,IsInode m:=by
  intro m hm
  rcases List.mem_or_eq_of_mem_set hm with h6 | rfl
  ·exact hf.inode m h6
  ·exact hov
 have hus:UsedOK (f.inodes.set I O):=by
  refine ⟨fun m hm => ?_,by rw [hal];exact hv.once⟩
  rcases List.mem_or_eq_of_mem_set hm with h6 | rfl
  ·exact hf.own m h6
  ·intro c hc hc1
   rw [hou]
   exact hv.own c (mem_real.1 (hor ▸ mem_real.2 ⟨hc,hc1⟩)).1 hc1
 have hsm:SmF ⟨f.tick,f.quotas,f.inodes.set I O,D⟩:=by
  refine ⟨hs.quotas,by simpa using hs.inodes,fun m hm => ?_,by simp only;omega⟩
  rcases List.mem_or_eq_of_mem_set hm with h6 | rfl
  ·exact hs.inode m h6
  ·exact hos
 have hnb:nextB ⟨f.tick,f.quotas,f.inodes.set I O,D⟩ N.uid=nextB ⟨f.tick,f.quotas,f.inodes.set I N,D⟩ N.uid:=nextB_allB rfl hal
 have hnx:=spec_l08NextBlock none none none ⟨f.tick,f.quotas,f.inodes.set I O,D⟩ N.uid hsm hin hus hw.uid hw.nq (by rw [List.length_set];exact hw.ni)
 rw [hnb] at hnx
 have hwk:wBlk f I N k=if N.blocks[k] = -1 then nextB ⟨f.tick,f.quotas,f.inodes.set I N,D⟩ N.uid else (N.blocks[k],0):=by
  rw [wBlk,hgd]
  rfl
 have hb1:32 * k≤wFrom A k∧A≤wFrom A k∧wFrom A k < wTo A k s∧wTo A k s≤A + s.length∧wTo A k s≤32 * k + 32:=by
  unfold wFrom wTo
  omega
 have hmx:=spec_l02Max (A:Int) ((k:Int) * 32)
 rw [show max (A:Int) ((k:Int) * 32)=((wFrom A k:Nat):Int) by unfold wFrom;omega] at hmx
 have hmn:=spec_l02Min ((A:Int) + s.length) (((k:Int) + 1) * 32)
 rw [show min ((A:Int) + s.length) (((k:Int) + 1) * 32)=((wTo A k s:Nat):Int) by unfold wTo;omega] at hmn
 have hput:∀ t:Str,t.length=32→Snd Tryz.prog 260 [.str t, .int .i64 ((wFrom A k:Int) - (k:Int) * 32), .str (List.take ((wTo A k s:Int) - (A:Int) - ((wFrom A k:Int) - (A:Int))).toNat (List.drop (wFrom A k - A) s))] (.str (putS t (wFrom A k - 32 * k) (wTo A k s - 32 * k) (wPart A k s))) [.unk, .unk, .unk]:=fun t ht=>by
  have e1:(wFrom A k:Int) - (k:Int) * 32=((wFrom A k - 32 * k:Nat):Int):=by omega
  have e2:((wTo A k s:Int) - (A:Int) - ((wFrom A k:Int) - (A:Int))).toNat=wTo A k s - wFrom A k:=by omega
  have hpl:(wPart A k s).length=wTo A k s - wFrom A k:=by
   rw [wPart,List.length_take,List.length_drop]
   omega
  rw [e1,e2,show wTo A k s - 32 * k=wFrom A k - 32 * k + (wPart A k s).length by omega]
  exact spec_l09Put t (wPart A k s) (wFrom A k - 32 * k) (by omega) (by omega)
 have hwd:∀ b:Nat,b < D.length→(D.map cs).set b [.str (putS (D.getD b []) (wFrom A k - 32 * k) (wTo A k s - 32 * k) (wPart A k s))]=(wD D b A k s).map cs:=fun b _=>by
  rw [wD,Int.toNat_natCast,List.map_set]
  rfl
 have hok2:=fun h0=>wBlk_ok hw (by omega:k < m) h0
 have hstep:=fun h0=>hw.step (by omega:k < m) h0 hk2 (by omega:32 * k < A + s.length)
 by_cases hb:N.blocks[k] = -1
 ·rw [if_pos hb] at hwk
  have hfree:=nextB_ok (f:=⟨f.tick,f.quotas,f.inodes.set I N,D⟩) hw.uid
  generalize nextB ⟨f.tick,f.quotas,f.inodes.set I N,D⟩ N.uid=r at *
  rw [hwk] at hwl hok2 hstep
  obtain ⟨B,e⟩:=r
  simp only at hwl hok2 hstep hnx hfree
  by_cases he0:e=0
  ·subst he0
   obtain ⟨b,rfl,hb56,hbo,hbf⟩:=hfree rfl
   rw [if_pos rfl] at hwl
   have hv2:=hv.step hlt hkl hb hb56 hbo hbf
   have hs2:SmI (wN N k b):=⟨by simp only [wN,List.length_set];omega,by simp only [wN];omega,by simp only [wN];omega⟩
   have hj:=ih (k + 1,wN N k b,wD D b A k s,wN N k b) ⟨hstep rfl,hv2,⟨.inr hv2.ok,rfl,rfl,hs2⟩,by simp only;omega,by simp only;omega,hwl⟩ (by simp only;omega)
   have hbD:b < D.length:=by omega
   have hOl:=hw.secs _ (List.getElem_mem hbD)
   have hwdb:=hwd b hbD
   have hgd2:D.getD b []=D[b]:=by simp [hbD]
   rw [hgd2] at hwdb
   obtain ⟨X,hX⟩:∃ X,D[b]=X:=⟨_,rfl⟩
   rw [hX] at hOl hwdb
   have hpx:=hput X hOl
   have htb:List.take m ((N.blocks.map ci).set k [.int .i64 b])=(N.blocks.map ci).set k [.int .i64 b]:=List.take_of_length_le (by simp;omega)
   have hbs:((N.blocks.map ci).set k [.int .i64 b])[k]? = some [.int .i64 (b:Int)]:=by simp [hkl]
   have h6:(List.map cInode (f.inodes.set I O)).set I [.int .i64 N.kind, .int .i64 N.mode, .int .i64 N.uid, .int .i64 N.gid, .int .i64 N.links, .int .i64 N.size, .int .i64 N.tick, .row 1 ((List.map ci N.blocks).set k [.int .i64 b]), .row 3 (N.acl.map cAcl), .row 3 (N.dflt.map cAcl)]=(f.inodes.set I (wN N k b)).map cInode:=by
    rw [←hGset (wN N k b)]
    simp only [cInode,wN,List.map_set,ci]
   have hcp:=spec_l07Copy none none none (wN N k b) hs2
   simp only [fInode,rInode,wN,List.map_set,ci] at hcp
   have h7:(N.blocks.map ci).set k [.int .i64 (b:Int)]=(wN N k b).blocks.map ci:=by simp only [wN,List.map_set,ci]
   simp only at hj
   rw [←h6,←hwdb,←h7] at hj
   simp only [wN] at hj
   generalize f.inodes.set I O=G at *
   (try simp -implicitDefEqProofs (disch:=first|exact dd|fail)[Tryz.f221,hlt,hkl,hkt,hGget,hGs,hbs,htb,hX,hOl,htG,htD,hGl,hDl,hnd,hbl,hb,hb56,cInode]);(repeat'((with_reducible first|(refine Br.out ?_ ?_<;>intro h<;>(try(have h0:=h;simp only[bH]at h)))|refine AC_snd (hnx) ?_|refine AC_snd (hcp) ?_|refine AC_snd (hmx) ?_|refine AC_snd (hmn) ?_|refine AC_snd (hpx) ?_|fail)<;>(try simp -implicitDefEqProofs (disch:=first|exact dd|fail)[Tryz.f221,hlt,hkl,hkt,hGget,hGs,hbs,htb,hX,hOl,htG,htD,hGl,hDl,hnd,hbl,hb,hb56,cInode])))
   all_goals first | exact hj
  ·rw [if_neg he0] at hwl
   subst hwl
   simp only [he0,if_false]
   generalize f.inodes.set I O=G at *
   (try simp -implicitDefEqProofs (disch:=first|exact dd|fail)[Tryz.f221,hlt,hkl,hkt,hGget,htG,htD,hGl,hDl,hbl,hb,he0,cInode]);(repeat'((with_reducible first|(refine Br.out ?_ ?_<;>intro h<;>(try(have h0:=h;simp only[bH]at h)))|refine AC_snd (hnx) ?_|refine AC_snd (spec_l08Copy _ _ _ f hs) ?_|fail)<;>(try simp -implicitDefEqProofs (disch:=first|exact dd|fail)[Tryz.f221,hlt,hkl,hkt,hGget,htG,htD,hGl,hDl,hbl,hb,he0,cInode])))
 ·rw [if_neg hb] at hwk
  rw [hwk,if_pos rfl] at hwl
  rw [hwk] at hok2 hstep
  obtain ⟨b,hbk,hb56⟩:=hok2 rfl
  simp only at hbk hstep
  have hj:=ih (k + 1,wN N k N.blocks[k],wD D N.blocks[k] A k s,O) ⟨hstep trivial,by rw [wN_same hkl rfl];exact hv,⟨hov,by simp only;rw [wN_same hkl rfl];exact hor,by simp only;rw [wN_same hkl rfl];exact hou,hos⟩,by simp only;omega,by simp only;omega,hwl⟩ (by simp only;omega)
  rw [wN_same hkl rfl] at hj
  rw [hbk] at hj
  have hb':¬ (b:Int) = -1:=by omega
  have hbD:b < D.length:=by omega
  have hOl:=hw.secs _ (List.getElem_mem hbD)
  have hwdb:=hwd b hbD
  have hgd2:D.getD b []=D[b]:=by simp [hbD]
  rw [hgd2] at hwdb
  obtain ⟨X,hX⟩:∃ X,D[b]=X:=⟨_,rfl⟩
  rw [hX] at hOl hwdb
  have hpx:=hput X hOl
  simp only at hj
  rw [←hwdb] at hj
  generalize f.inodes.set I O=G at *
  (try simp -implicitDefEqProofs (disch:=first|exact dd|fail)[Tryz.f221,hlt,hkl,hkt,hGget,hbk,hb',hX,hOl,htG,htD,hGl,hDl,hnd,hbl,hb56,cInode]);(repeat'((with_reducible first|(refine Br.out ?_ ?_<;>intro h<;>(try(have h0:=h;simp only[bH]at h)))|refine AC_snd (hmx) ?_|refine AC_snd (hmn) ?_|refine AC_snd (hpx) ?_|fail)<;>(try simp -implicitDefEqProofs (disch:=first|exact dd|fail)[Tryz.f221,hlt,hkl,hkt,hGget,hbk,hb',hX,hOl,htG,htD,hGl,hDl,hnd,hbl,hb56,cInode])))
  all_goals first | exact hj
set_option maxHeartbeats 4000000
set_option maxRecDepth 8000
noncomputable def writeB (f:DFS) (i a:Int) (s:Str):DFS × Int:=if isFS f && hasI f i then (if (writeF f i a s).2=0 then (writeF f i a s).1 else f,(writeF f i a s).2) else (f,1)
end Go.Proofs.YtgopfdninbknpaaGreat
