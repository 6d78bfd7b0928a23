import Derived.Test.YtfkkfhafijgdaaaMA
import Derived.Test.YtfkkfhafijgdaaaP12
import Derived.Test.YtfkkfhafijgdaaaP08
namespace Go.Proofs.Ytfkkfhafijgdaaa
open Go.Fw
set_option linter.unusedVariables false
set_option linter.unusedSimpArgs false
set_option maxHeartbeats 4000000
set_option maxRecDepth 8000
theorem impl_taken (n1 n2 n3:Option Bool) (f:DFS) (hs:SmF f) (hr:InR f.inodes):Snd Try.prog 155 [pFS n1 n2 n3 f] (.row 1 ((usedL (allB f.inodes)).map cb)) [.unk]:=Runs.snd (M:=M) (c:=⟨1,[2,3,5,7,12,13,14,15,19,20,21,22],[],[(1,[0,2,3,12,13,14,15,22]),(2,[0,2,3,5,12,13,14,15,19,20,21,22]),(3,[0,2,3,5,12,13,14,15,19,20,21,22])]⟩) tok ks mixed Try.func155 (p := []) (by kernel_rfl) (by rfl) (by rfl) <| by
 have k2:=hs.inodes
 (try simp -implicitDefEqProofs (disch:=first|exact dd|fail)[Try.f155]);(repeat'((with_reducible first|(refine Br.out ?_ ?_<;>intro h<;>(try(have h0:=h;simp only[bH]at h)))|fail)<;>(try simp -implicitDefEqProofs (disch:=first|exact dd|fail)[Try.f155])))
 refine AL_fors (σ:=Unit) 14 f.inodes.length (fun _ _ => []) (fun i _ => [(384, .row 1 ((usedL (allB (f.inodes.take i))).map cb) [])]) (fun i _=>True) () (by simp [allB,usedL_nil,cb]) trivial (fun i _ n hlt _ ih => ?_) (fun _ n _ => ?_)
 ·have hsn:=hs.inode _ (List.getElem_mem hlt)
  have hbl:=hsn.blocks
  have hal:=allB_take hlt
  have hrr:=hr _ (List.getElem_mem hlt)
  generalize hx:f.inodes[i]=x at *
  have hrl:=real_len (l:=x.blocks)
  (try simp -implicitDefEqProofs (disch:=first|exact dd|fail)[Try.f155,hlt,hx,cInode]);(repeat'((with_reducible first|(refine Br.out ?_ ?_<;>intro h<;>(try(have h0:=h;simp only[bH]at h)))|refine AC_snd (impl_UsedBlocks _ _ _ x hsn) ?_|fail)<;>(try simp -implicitDefEqProofs (disch:=first|exact dd|fail)[Try.f155,hlt,hx,cInode])))
  have hR:∀ b ∈ real x.blocks,0≤b∧b < 56:=fun b hb=>hrr b (mem_real.1 hb).1 (mem_real.1 hb).2
  have hi:=ih () trivial
  rw [hal] at hi
  generalize real x.blocks=B at *
  refine AL_fors (σ:=Unit) 21 B.length (fun _ _ => []) (fun j _ => [(384, .row 1 ((usedL (allB (f.inodes.take i)++B.take j)).map cb) [])]) (fun j _=>True) () (by simp) trivial (fun j _ n hjt _ jh => ?_) (fun _ n _ => ?_)
  ·have hb:=hR _ (List.getElem_mem hjt)
   have hset:=usedL_set (bs:=allB (f.inodes.take i)++B.take j) hb.1 hb.2
   have hlu:(usedL (allB (f.inodes.take i)++B.take j)).length=56:=usedL_len
   obtain ⟨k,hbk⟩:=Int.eq_ofNat_of_zero_le hb.1
   rw [List.append_assoc,←List.take_succ_eq_append_getElem hjt] at hset
   have hj:=jh () trivial
   rw [←hset,List.map_set] at hj
   simp only [hbk,Int.toNat_natCast] at hj hb
   have hk:k < 56:=by omega
   obtain ⟨o,ho⟩:∃ o,((usedL (allB (f.inodes.take i)++B.take j)).map cb)[k]? = some [.bool o]:=⟨_,by rw [List.getElem?_map,List.getElem?_eq_getElem (by omega)];rfl⟩
   generalize (usedL (allB (f.inodes.take i)++B.take j)).map cb=U at *
   (try simp -implicitDefEqProofs (disch:=first|exact dd|fail)[Try.f155,hjt,hbk,ho]);(repeat'((with_reducible first|(refine Br.out ?_ ?_<;>intro h<;>(try(have h0:=h;simp only[bH]at h)))|fail)<;>(try simp -implicitDefEqProofs (disch:=first|exact dd|fail)[Try.f155,hjt,hbk,ho])))
   all_goals first | exact hj
  ·rw [List.take_length]
   (try simp -implicitDefEqProofs (disch:=first|exact dd|fail)[Try.f155]);(repeat'((with_reducible first|(refine Br.out ?_ ?_<;>intro h<;>(try(have h0:=h;simp only[bH]at h)))|fail)<;>(try simp -implicitDefEqProofs (disch:=first|exact dd|fail)[Try.f155])))
   all_goals first | exact hi
 ·rw [List.take_length]
  (try simp -implicitDefEqProofs (disch:=first|exact dd|fail)[Try.f155]);(repeat'((with_reducible first|(refine Br.out ?_ ?_<;>intro h<;>(try(have h0:=h;simp only[bH]at h)))|fail)<;>(try simp -implicitDefEqProofs (disch:=first|exact dd|fail)[Try.f155])))
theorem impl_blocks (n1 n2 n3:Option Bool) (f:DFS) (u:Int) (hs:SmF f) (hr:InR f.inodes) (hu:IsUser u):Snd Try.prog 154 [pFS n1 n2 n3 f, .int .i64 u] (.int .i64 (poolT (allB f.inodes) (14 * u.toNat) 14)) [.unk, .unk]:=Runs.snd (M:=M) (c:=⟨2,[4,5,7,15,16,17,18,21],[],[(1,[0,1,4,5,15,16,17,18,21])]⟩) tok ks mixed Try.func154 (p := []) (by kernel_rfl) (by rfl) (by rfl) <| by
 obtain ⟨k,rfl⟩:=Int.eq_ofNat_of_zero_le hu.1
 have hk:k < 4:=by omega
 (try simp -implicitDefEqProofs (disch:=first|exact dd|fail)[Try.f154]);(repeat'((with_reducible first|(refine Br.out ?_ ?_<;>intro h<;>(try(have h0:=h;simp only[bH]at h)))|refine AC_snd (impl_taken _ _ _ f hs hr) ?_|fail)<;>(try simp -implicitDefEqProofs (disch:=first|exact dd|fail)[Try.f154])))
 have hget:=fun j=>usedL_get (bs:=allB f.inodes) (k:=j)
 have hlu:(usedL (allB f.inodes)).length=56:=usedL_len
 generalize usedL (allB f.inodes)=U at *
 have e1:((k:Int) * 14).toNat=14 * k:=by omega
 have e2:((k:Int) + 1) * 14 - (k:Int) * 14=14:=by omega
 have e3:max (14:Int) 0=14:=rfl
 simp only [e1,e2,e3]
 refine AL_fors (σ:=Unit) 17 14 (fun j _ => [(5, .int .i64 (poolT (allB f.inodes) (14 * k) j))]) (fun j _ => []) (fun j _=>True) () rfl trivial (fun j _ n hjt _ jh => ?_) (fun _ n _ => ?_)
 ·have hj:=jh () trivial
  have hg:=hget (14 * k + j) (by omega)
  have hl:=poolT_le (B:=allB f.inodes) (lo:=14 * k) (n:=j)
  rw [poolT_succ (n:=j)] at hj
  generalize poolT (allB f.inodes) (14 * k) j=p at *
  by_cases hm:((14 * k + j:Nat):Int) ∈ allB f.inodes
  ·rw [decide_eq_true hm] at hg
   rw [if_pos hm] at hj
   have hgv:=(List.getElem?_eq_some_iff.1 hg).2
   (try simp -implicitDefEqProofs (disch:=first|exact dd|fail)[Try.f154,hjt,hg,hgv,hlu,cb]);(repeat'((with_reducible first|(refine Br.out ?_ ?_<;>intro h<;>(try(have h0:=h;simp only[bH]at h)))|fail)<;>(try simp -implicitDefEqProofs (disch:=first|exact dd|fail)[Try.f154,hjt,hg,hgv,hlu,cb])))
   all_goals first | exact hj
  ·rw [decide_eq_false hm] at hg
   rw [if_neg hm] at hj
   have hgv:=(List.getElem?_eq_some_iff.1 hg).2
   (try simp -implicitDefEqProofs (disch:=first|exact dd|fail)[Try.f154,hjt,hg,hgv,hlu,cb]);(repeat'((with_reducible first|(refine Br.out ?_ ?_<;>intro h<;>(try(have h0:=h;simp only[bH]at h)))|fail)<;>(try simp -implicitDefEqProofs (disch:=first|exact dd|fail)[Try.f154,hjt,hg,hgv,hlu,cb])))
   all_goals first | exact hj
 ·(try simp -implicitDefEqProofs (disch:=first|exact dd|fail)[Try.f154]);(repeat'((with_reducible first|(refine Br.out ?_ ?_<;>intro h<;>(try(have h0:=h;simp only[bH]at h)))|fail)<;>(try simp -implicitDefEqProofs (disch:=first|exact dd|fail)[Try.f154])))
theorem impl_nextBlock (n1 n2 n3:Option Bool) (f:DFS) (u:Int) (hs:SmF f) (hr:InR f.inodes) (hu:IsUser u) (hq:f.quotas.length=4):Snd Try.prog 121 [pFS n1 n2 n3 f, .int .i64 u] (.tup [.int .i64 (nextB f u).1, .int .i64 (nextB f u).2]) [.unk, .unk]:=Runs.snd (M:=M) (c:=⟨2,[4,5,6,7,19,28,35],[],[]⟩) tok ks mixed Try.func121 (p := []) (by kernel_rfl) (by rfl) (by rfl) <| by
 have hb:=impl_blocks n1 n2 n3 f u hs hr hu
 obtain ⟨k,rfl⟩:=Int.eq_ofNat_of_zero_le hu.1
 have hk:k < 4:=by omega
 have hkq:k < f.quotas.length:=by omega
 have hq2:=quotaAt_nat hkq
 simp only [Int.toNat_natCast] at hb
 unfold nextB
 simp only [hq2,Int.toNat_natCast]
 by_cases hc:f.quotas[k].blocks≤((poolT (allB f.inodes) (14 * k) 14:Nat):Int)
 ·rw [if_pos hc]
  (try simp -implicitDefEqProofs (disch:=first|exact dd|fail)[Try.f121,hkq,hc,cQuota]);(repeat'((with_reducible first|(refine Br.out ?_ ?_<;>intro h<;>(try(have h0:=h;simp only[bH]at h)))|refine AC_snd (hb) ?_|fail)<;>(try simp -implicitDefEqProofs (disch:=first|exact dd|fail)[Try.f121,hkq,hc,cQuota])))
 rw [if_neg hc]
 have hget:=fun j=>usedL_get (bs:=allB f.inodes) (k:=j)
 have hlu:(usedL (allB f.inodes)).length=56:=usedL_len
 have ht:=impl_taken n1 n2 n3 f hs hr
 generalize usedL (allB f.inodes)=U at *
 (try simp -implicitDefEqProofs (disch:=first|exact dd|fail)[Try.f121,hkq,hc,hlu,cQuota]);(repeat'((with_reducible first|(refine Br.out ?_ ?_<;>intro h<;>(try(have h0:=h;simp only[bH]at h)))|refine AC_snd (hb) ?_|refine AC_snd (ht) ?_|fail)<;>(try simp -implicitDefEqProofs (disch:=first|exact dd|fail)[Try.f121,hkq,hc,hlu,cQuota])))
 have e1:(k:Int) * 14=((14 * k:Nat):Int):=by omega
 rw [e1]
 refine AL_up (fun q=>14 * k + 14 - q) (fun (q:Nat) => [(7, .int .i64 (q:Int))]) (fun _ => []) (fun q=>(14 * k≤q∧q≤14 * k + 14)∧nextFree (allB f.inodes) q (14 * k + 14 - q)=nextFree (allB f.inodes) (14 * k) 14) (14 * k) rfl ⟨by omega,by rw [show 14 * k + 14 - 14 * k=14 by omega]⟩ ?_
 rintro q n ⟨⟨hq0,hq1⟩,he⟩ ih
 rcases Nat.lt_or_ge q (14 * k + 14) with hjt | hjt
 ·have hg:=hget q (by omega)
  have hst:nextFree (allB f.inodes) q (14 * k + 14 - q)=if (q:Int) ∈ allB f.inodes then nextFree (allB f.inodes) (q + 1) (14 * k + 14 - (q + 1)) else ((q:Int),0):=by
   rw [show 14 * k + 14 - q=(14 * k + 14 - (q + 1)) + 1 by omega,nextFree]
  by_cases hm:(q:Int) ∈ allB f.inodes
  ·rw [decide_eq_true hm] at hg
   rw [if_pos hm] at hst
   have hi:=ih (q + 1) ⟨by omega,by rw [←hst];exact he⟩ (by omega)
   have hgv:=(List.getElem?_eq_some_iff.1 hg).2
   (try simp -implicitDefEqProofs (disch:=first|exact dd|fail)[Try.f121,hg,hgv,hlu,cb,hjt]);(repeat'((with_reducible first|(refine Br.out ?_ ?_<;>intro h<;>(try(have h0:=h;simp only[bH]at h)))|fail)<;>(try simp -implicitDefEqProofs (disch:=first|exact dd|fail)[Try.f121,hg,hgv,hlu,cb,hjt])))
   all_goals first | exact hi
  ·rw [decide_eq_false hm] at hg
   rw [if_neg hm] at hst
   rw [←he,hst]
   have hgv:=(List.getElem?_eq_some_iff.1 hg).2
   (try simp -implicitDefEqProofs (disch:=first|exact dd|fail)[Try.f121,hg,hgv,hlu,cb,hjt]);(repeat'((with_reducible first|(refine Br.out ?_ ?_<;>intro h<;>(try(have h0:=h;simp only[bH]at h)))|fail)<;>(try simp -implicitDefEqProofs (disch:=first|exact dd|fail)[Try.f121,hg,hgv,hlu,cb,hjt])))
 ·obtain rfl:q=14 * k + 14:=by omega
  rw [←he,Nat.sub_self,nextFree]
  (try simp -implicitDefEqProofs (disch:=first|exact dd|fail)[Try.f121,hlu,cb]);(repeat'((with_reducible first|(refine Br.out ?_ ?_<;>intro h<;>(try(have h0:=h;simp only[bH]at h)))|fail)<;>(try simp -implicitDefEqProofs (disch:=first|exact dd|fail)[Try.f121,hlu,cb])))
set_option maxHeartbeats 4000000
set_option maxRecDepth 8000
theorem ownN_le {u:Int} {B:List Int}:ownN u B≤B.length:=List.length_filter_le _ _
theorem allB_len {ns:List DInode} (h:∀ n ∈ ns,n.blocks.length≤1048576):(allB ns).length≤1048576 * ns.length:=by
 induction ns with
 | nil=>simp [allB]
 | cons n ns ih=>
  have h1:=ih (fun m hm=>h m (List.mem_cons_of_mem _ hm))
  have h2:=h n (List.mem_cons_self ..)
  have h3:=real_len (l:=n.blocks)
  rw [allB,List.flatMap_cons,List.length_append,←allB,List.length_cons]
  omega
theorem spec_l08Blocks (n1 n2 n3:Option Bool) (f:DFS) (u:Int) (hs:SmF f) (hn:f.inodes.length=20):Snd Try.prog 173 [fFS n1 n2 n3 f, .int .i64 u] (.int .i64 (ownN u (allB f.inodes))) [.unk, .unk]:=Runs.snd (M:=M) (c:=⟨2,[2,4,5,7,9,11,12,13,14,18,19,20,21,31],[],[(1,[0,1,2,4,5,11,12,13,14,21,31]),(2,[0,1,2,4,5,7,11,12,13,14,18,19,20,21,31]),(3,[0,1,2,4,5,7,11,12,13,14,18,19,20,21,31])]⟩) tok ks mixed Try.func173 (p := []) (by kernel_rfl) (by rfl) (by rfl) <| by
 have hbd:∀ (i:Nat),(allB (f.inodes.take i)).length≤1048576 * 20:=fun i=>by
  have h1:=allB_len (ns:=f.inodes.take i) (fun n hm=>(hs.inode n (List.mem_of_mem_take hm)).blocks)
  rw [List.length_take] at h1
  omega
 (try simp -implicitDefEqProofs (disch:=first|exact dd|fail)[Try.f173]);(repeat'((with_reducible first|(refine Br.out ?_ ?_<;>intro h<;>(try(have h0:=h;simp only[bH]at h)))|fail)<;>(try simp -implicitDefEqProofs (disch:=first|exact dd|fail)[Try.f173])))
 refine AL_fors (σ:=Unit) 13 f.inodes.length (fun i _ => [(5, .int .i64 (ownN u (allB (f.inodes.take i))))]) (fun _ _ => []) (fun i _=>True) () (by simp [allB,ownN]) trivial (fun i _ n hlt _ ih => ?_) (fun _ n _ => ?_)
 ·have hsn:=hs.inode _ (List.getElem_mem hlt)
  have hbl:=hsn.blocks
  have hal:=allB_take hlt
  have hb1:=hbd i
  have hi:=ih () trivial
  rw [hal,ownN_append] at hi
  have ho:=ownN_le (u:=u) (B:=allB (f.inodes.take i))
  generalize hx:f.inodes[i]=x at *
  generalize ownN u (allB (f.inodes.take i))=p at *
  (try simp -implicitDefEqProofs (disch:=first|exact dd|fail)[Try.f173,hlt,hx,cInode]);(repeat'((with_reducible first|(refine Br.out ?_ ?_<;>intro h<;>(try(have h0:=h;simp only[bH]at h)))|fail)<;>(try simp -implicitDefEqProofs (disch:=first|exact dd|fail)[Try.f173,hlt,hx,cInode])))
  refine AL_fors (σ:=Unit) 20 x.blocks.length (fun j _ => [(5, .int .i64 ((p + ownN u (real (x.blocks.take j)):Nat):Int))]) (fun j _ => []) (fun j _=>True) () (by simp [real,ownN]) trivial (fun j _ n hjt _ jh => ?_) (fun _ n _ => ?_)
  ·have hj:=jh () trivial
   have hr:=real_take hjt
   have ho2:=ownN_le (u:=u) (B:=real (x.blocks.take j))
   have hrl:=real_len (l:=x.blocks.take j)
   rw [List.length_take] at hrl
   by_cases hb:x.blocks[j] = -1
   ·rw [if_pos hb] at hr
    rw [hr] at hj
    generalize ownN u (real (x.blocks.take j))=q at *
    (try simp -implicitDefEqProofs (disch:=first|exact dd|fail)[Try.f173,hlt,hjt,hx,hb,cInode]);(repeat'((with_reducible first|(refine Br.out ?_ ?_<;>intro h<;>(try(have h0:=h;simp only[bH]at h)))|fail)<;>(try simp -implicitDefEqProofs (disch:=first|exact dd|fail)[Try.f173,hlt,hjt,hx,hb,cInode])))
    all_goals first | exact hj
   ·rw [if_neg hb] at hr
    rw [hr,ownN_append,ownN_one] at hj
    generalize ownN u (real (x.blocks.take j))=q at *
    by_cases hw:ownerOf x.blocks[j]=u
    ·rw [if_pos hw] at hj
     (try simp -implicitDefEqProofs (disch:=first|exact dd|fail)[Try.f173,hlt,hjt,hx,hb,hw,cInode]);(repeat'((with_reducible first|(refine Br.out ?_ ?_<;>intro h<;>(try(have h0:=h;simp only[bH]at h)))|refine AC_snd (spec_BlockOwner _) ?_|fail)<;>(try simp -implicitDefEqProofs (disch:=first|exact dd|fail)[Try.f173,hlt,hjt,hx,hb,hw,cInode])))
     all_goals first | exact hj
    ·rw [if_neg hw] at hj
     (try simp -implicitDefEqProofs (disch:=first|exact dd|fail)[Try.f173,hlt,hjt,hx,hb,hw,cInode]);(repeat'((with_reducible first|(refine Br.out ?_ ?_<;>intro h<;>(try(have h0:=h;simp only[bH]at h)))|refine AC_snd (spec_BlockOwner _) ?_|fail)<;>(try simp -implicitDefEqProofs (disch:=first|exact dd|fail)[Try.f173,hlt,hjt,hx,hb,hw,cInode])))
     all_goals first | exact hj
  ·rw [List.take_length]
   (try simp -implicitDefEqProofs (disch:=first|exact dd|fail)[Try.f173]);(repeat'((with_reducible first|(refine Br.out ?_ ?_<;>intro h<;>(try(have h0:=h;simp only[bH]at h)))|fail)<;>(try simp -implicitDefEqProofs (disch:=first|exact dd|fail)[Try.f173])))
   all_goals first | exact hi
 ·rw [List.take_length]
  (try simp -implicitDefEqProofs (disch:=first|exact dd|fail)[Try.f173]);(repeat'((with_reducible first|(refine Br.out ?_ ?_<;>intro h<;>(try(have h0:=h;simp only[bH]at h)))|fail)<;>(try simp -implicitDefEqProofs (disch:=first|exact dd|fail)[Try.f173])))
theorem used_inR {ns:List DInode} (hin:∀ n ∈ ns,IsInode n) (h:∀ n ∈ ns,OwnOK n):InR ns:=fun n hn b hb hne=>
 owner_range (h n hn b hb hne) (inode_used (hin n hn) (List.length_pos_of_mem hb)).uid.1
theorem spec_l08NextBlock (n1 n2 n3:Option Bool) (f:DFS) (u:Int) (hs:SmF f) (hin:∀ n ∈ f.inodes,IsInode n) (hus:UsedOK f.inodes) (hu:IsUser u) (hq:f.quotas.length=4) (hn:f.inodes.length=20):Snd Try.prog 147 [fFS n1 n2 n3 f, .int .i64 u] (.tup [.int .i64 (nextB f u).1, .int .i64 (nextB f u).2]) [.unk, .unk]:=Runs.snd (M:=M) (c:=⟨2,[2,4,5,6,7,9,20,38,45],[],[]⟩) tok ks mixed Try.func147 (p := []) (by kernel_rfl) (by rfl) (by rfl) <| by
 have hb:=fun a b d=>spec_l08Blocks a b d f u hs hn
 have hp:=ownN_pool hu hus.2 (allB_inR (used_inR hin hus.1))
 simp only [hp] at hb
 have ht:=fun a b d=>spec_l08Used a b d f hs hin
 rw [usedR_yes hus,tr_yes hus] at ht
 obtain ⟨k,rfl⟩:=Int.eq_ofNat_of_zero_le hu.1
 have hk:k < 4:=by omega
 have hkq:k < f.quotas.length:=by omega
 have hq2:=quotaAt_nat hkq
 simp only [Int.toNat_natCast] at hb
 unfold nextB
 simp only [hq2,Int.toNat_natCast]
 by_cases hc:f.quotas[k].blocks≤((poolT (allB f.inodes) (14 * k) 14:Nat):Int)
 ·rw [if_pos hc]
  (try simp -implicitDefEqProofs (disch:=first|exact dd|fail)[Try.f147,hkq,hc,cQuota]);(repeat'((with_reducible first|(refine Br.out ?_ ?_<;>intro h<;>(try(have h0:=h;simp only[bH]at h)))|refine AC_snd (hb _ _ _) ?_|fail)<;>(try simp -implicitDefEqProofs (disch:=first|exact dd|fail)[Try.f147,hkq,hc,cQuota])))
 rw [if_neg hc]
 have hget:=fun j=>usedL_get (bs:=allB f.inodes) (k:=j)
 have hlu:(usedL (allB f.inodes)).length=56:=usedL_len
 generalize usedL (allB f.inodes)=U at *
 (try simp -implicitDefEqProofs (disch:=first|exact dd|fail)[Try.f147,hkq,hc,hlu,cQuota]);(repeat'((with_reducible first|(refine Br.out ?_ ?_<;>intro h<;>(try(have h0:=h;simp only[bH]at h)))|refine AC_snd (hb _ _ _) ?_|refine AC_snd (ht _ _ _) ?_|fail)<;>(try simp -implicitDefEqProofs (disch:=first|exact dd|fail)[Try.f147,hkq,hc,hlu,cQuota])))
 have e1:(k:Int) * 14=((14 * k:Nat):Int):=by omega
 rw [e1]
 refine AL_up (fun q=>14 * k + 14 - q) (fun (q:Nat) => [(9, .int .i64 (q:Int))]) (fun _ => []) (fun q=>(14 * k≤q∧q≤14 * k + 14)∧nextFree (allB f.inodes) q (14 * k + 14 - q)=nextFree (allB f.inodes) (14 * k) 14) (14 * k) rfl ⟨by omega,by rw [show 14 * k + 14 - 14 * k=14 by omega]⟩ ?_
 rintro q n ⟨⟨hq0,hq1⟩,he⟩ ih
 rcases Nat.lt_or_ge q (14 * k + 14) with hjt | hjt
 ·have hg:=hget q (by omega)
  have hst:nextFree (allB f.inodes) q (14 * k + 14 - q)=if (q:Int) ∈ allB f.inodes then nextFree (allB f.inodes) (q + 1) (14 * k + 14 - (q + 1)) else ((q:Int),0):=by
   rw [show 14 * k + 14 - q=(14 * k + 14 - (q + 1)) + 1 by omega,nextFree]
  by_cases hm:(q:Int) ∈ allB f.inodes
  ·rw [decide_eq_true hm] at hg
   rw [if_pos hm] at hst
   have hi:=ih (q + 1) ⟨by omega,by rw [←hst];exact he⟩ (by omega)
   have hgv:=(List.getElem?_eq_some_iff.1 hg).2
   (try simp -implicitDefEqProofs (disch:=first|exact dd|fail)[Try.f147,hg,hgv,hlu,cb,hjt]);(repeat'((with_reducible first|(refine Br.out ?_ ?_<;>intro h<;>(try(have h0:=h;simp only[bH]at h)))|fail)<;>(try simp -implicitDefEqProofs (disch:=first|exact dd|fail)[Try.f147,hg,hgv,hlu,cb,hjt])))
   all_goals first | exact hi
  ·rw [decide_eq_false hm] at hg
   rw [if_neg hm] at hst
   rw [←he,hst]
   have hgv:=(List.getElem?_eq_some_iff.1 hg).2
   (try simp -implicitDefEqProofs (disch:=first|exact dd|fail)[Try.f147,hg,hgv,hlu,cb,hjt]);(repeat'((with_reducible first|(refine Br.out ?_ ?_<;>intro h<;>(try(have h0:=h;simp only[bH]at h)))|fail)<;>(try simp -implicitDefEqProofs (disch:=first|exact dd|fail)[Try.f147,hg,hgv,hlu,cb,hjt])))
 ·obtain rfl:q=14 * k + 14:=by omega
  rw [←he,Nat.sub_self,nextFree]
  (try simp -implicitDefEqProofs (disch:=first|exact dd|fail)[Try.f147,hlu,cb]);(repeat'((with_reducible first|(refine Br.out ?_ ?_<;>intro h<;>(try(have h0:=h;simp only[bH]at h)))|fail)<;>(try simp -implicitDefEqProofs (disch:=first|exact dd|fail)[Try.f147,hlu,cb])))
set_option maxHeartbeats 4000000
set_option maxRecDepth 8000
theorem impl_write (f:DFS) (i a:Int) (s:Str) (hs:SmF f) (hf:IsFS f) (hi:hasI f i=true) (hl:s.length≤1048576) (ha:a≤9223372036854775807):Snd Try.prog 75 [wFS f, .int .i64 i, .int .i64 a, .str s] (.int .i64 (writeF f i a s).2) [wFS (writeF f i a s).1, .unk, .unk, .unk]:=Runs.snd (M:=M) (c:=⟨4,[8,9,10,11,12,13,14,15,16,17,18,21,31,63,79,89,100],[],[(4,[0,1,2,3,8,9,10,11,18,21,31,63,79,89,100])]⟩) tok ks mixed Try.func75 (p := [0]) (by kernel_rfl) (by rfl) (by rfl) <| by
 have hi':=hasI_lt hi
 obtain ⟨I,rfl⟩:=Int.eq_ofNat_of_zero_le hi'.1
 have hI:I < 20:=by omega
 have hlt:I < f.inodes.length:=by rw [hf.ni];omega
 have he:=inodeAt_nat hlt
 have hok:=(isInode_ok hi'.2.2).1 (hf.sm _ ⟨hi'.1,hi'.2.1⟩)
 rw [he] at hok
 by_cases h1:a < 0
 ·rw [writeF,if_pos h1]
  (try simp -implicitDefEqProofs (disch:=first|exact dd|fail)[Try.f75,h1]);(repeat'((with_reducible first|(refine Br.out ?_ ?_<;>intro h<;>(try(have h0:=h;simp only[bH]at h)))|fail)<;>(try simp -implicitDefEqProofs (disch:=first|exact dd|fail)[Try.f75,h1])))
 obtain ⟨A,rfl⟩:=Int.eq_ofNat_of_zero_le (show 0≤a by omega)
 by_cases h2:256 < (A:Int) + s.length
 ·rw [writeF,if_neg h1,if_pos h2]
  by_cases h3:(256:Int) < A
  ·(try simp -implicitDefEqProofs (disch:=first|exact dd|fail)[Try.f75,h1,h3]);(repeat'((with_reducible first|(refine Br.out ?_ ?_<;>intro h<;>(try(have h0:=h;simp only[bH]at h)))|fail)<;>(try simp -implicitDefEqProofs (disch:=first|exact dd|fail)[Try.f75,h1,h3])))
  ·have h4:(256:Int) - A < s.length:=by omega
   (try simp -implicitDefEqProofs (disch:=first|exact dd|fail)[Try.f75,h1,h3,h4]);(repeat'((with_reducible first|(refine Br.out ?_ ?_<;>intro h<;>(try(have h0:=h;simp only[bH]at h)))|fail)<;>(try simp -implicitDefEqProofs (disch:=first|exact dd|fail)[Try.f75,h1,h3,h4])))
 have h3:¬ (256:Int) < A:=by omega
 have h4:¬ (256:Int) - A < s.length:=by omega
 by_cases h5:s = []
 ·rw [writeF,if_neg h1,if_neg h2,if_pos h5]
  (try simp -implicitDefEqProofs (disch:=first|exact dd|fail)[Try.f75,h1,h3,h4,h5]);(repeat'((with_reducible first|(refine Br.out ?_ ?_<;>intro h<;>(try(have h0:=h;simp only[bH]at h)))|fail)<;>(try simp -implicitDefEqProofs (disch:=first|exact dd|fail)[Try.f75,h1,h3,h4,h5])))
 rw [writeF,if_neg h1,if_neg h2,if_neg h5]
 simp only [Int.toNat_natCast]
 have hst:=WI.start (e:=(A:Int) + s.length) hs hf.nq hf.ni hI (used_inR hf.inode hf.own) (List.getElem?_eq_getElem hlt) hok (by omega) hf.nd hf.secs
 have hsl:0 < s.length:=List.length_pos_iff.2 h5
 have hmx:(if f.inodes[I].size < (A:Int) + s.length then (A:Int) + s.length else f.inodes[I].size)=max f.inodes[I].size ((A:Int) + s.length):=by
  split<;>omega
 have hbn:=blocksNeeded_le (s:=max f.inodes[I].size ((A:Int) + s.length)) (by have:=hok.size;omega)
 have hbn0:=blocksNeeded_nn (s:=max f.inodes[I].size ((A:Int) + s.length))
 have hxb:=hok.blocks
 have hmono:blocksNeeded f.inodes[I].size≤blocksNeeded (max f.inodes[I].size ((A:Int) + s.length)):=by
  unfold blocksNeeded
  split<;>split<;>omega
 unfold writeL
 rw [he]
 unfold sized at hst ⊢
 (try simp -implicitDefEqProofs (disch:=first|exact dd|fail)[Try.f75,h1,h3,h4,h5,hlt,hmx,cInode]);(repeat'((with_reducible first|(refine Br.out ?_ ?_<;>intro h<;>(try(have h0:=h;simp only[bH]at h)))|fail)<;>(try simp -implicitDefEqProofs (disch:=first|exact dd|fail)[Try.f75,h1,h3,h4,h5,hlt,hmx,cInode])))
 have hszr:max f.inodes[I].size ((A:Int) + s.length)≤256:=by have:=hok.size;omega
 have hend:(A:Int) + s.length≤max f.inodes[I].size ((A:Int) + s.length):=by omega
 generalize max f.inodes[I].size ((A:Int) + s.length)=Z at *
 obtain ⟨Q,hQ⟩:=Int.eq_ofNat_of_zero_le hbn0
 rw [hQ] at hst hmono hbn ⊢
 simp only [Int.toNat_natCast] at hst ⊢
 generalize hx:f.inodes[I]=x at *
 have hgs:∀ c,((f.inodes.map cInode).set I c)[I]? = some c:=fun c=>by simp [hlt]
 refine AL_up (fun (m:Nat)=>Q - m) (fun _ => []) (fun (m:Nat) => [(6, .row 10 ((f.inodes.map cInode).set I (cInode { x with size:=Z,blocks:=growB x.blocks m })) [])]) (fun m=>x.blocks.length≤m∧m≤Q) x.blocks.length (by simp [growB_zero (Nat.le_refl _),cInode]) ⟨Nat.le_refl _,by omega⟩ ?_
 rintro m n ⟨hm0,hm1⟩ ih
 have hgl:(growB x.blocks m).length=m:=by rw [growB_len];omega
 rcases Nat.lt_or_ge m Q with hmq | hmq
 ·have hj:=ih (m + 1) ⟨by omega,by omega⟩ (by omega)
  rw [growB_step hm0] at hj
  generalize growB x.blocks m=B at *
  have htk:List.take m (List.map ci B)=List.map ci B:=List.take_of_length_le (by simp [hgl])
  simp only [cInode,List.map_append,List.map_cons,List.map_nil,ci] at hj
  (try simp -implicitDefEqProofs (disch:=first|exact dd|fail)[Try.f75,hlt,hgs,hmq,hgl,hQ,htk,cInode]);(repeat'((with_reducible first|(refine Br.out ?_ ?_<;>intro h<;>(try(have h0:=h;simp only[bH]at h)))|refine AC_snd (impl_BlocksNeeded _ (by omega)) ?_|fail)<;>(try simp -implicitDefEqProofs (disch:=first|exact dd|fail)[Try.f75,hlt,hgs,hmq,hgl,hQ,htk,cInode])))
  all_goals first | exact hj
 obtain rfl:m=Q:=by omega
 (try simp -implicitDefEqProofs (disch:=first|exact dd|fail)[Try.f75,hlt,hgs,hgl,hQ,cInode]);(repeat'((with_reducible first|(refine Br.out ?_ ?_<;>intro h<;>(try(have h0:=h;simp only[bH]at h)))|refine AC_snd (impl_BlocksNeeded _ (by omega)) ?_|fail)<;>(try simp -implicitDefEqProofs (disch:=first|exact dd|fail)[Try.f75,hlt,hgs,hgl,hQ,cInode])))
 have hAd:(A:Int) / 32=((A / 32:Nat):Int):=by omega
 rw [hAd]
 obtain ⟨W,hW⟩:∃ W,W=wLoop f I A s (wSteps A s) (A / 32) { x with size:=Z,blocks:=growB x.blocks m } f.data:=⟨_,rfl⟩
 rw [←hW]
 have hmm:(A + s.length - 1) / 32 < m:=by
  unfold blocksNeeded at hQ
  split at hQ<;>omega
 refine AL_up (ι:=Nat × DInode × List Str) (fun y=>wSteps 0 (s++s) + (A + s.length) + 40 - y.1) (fun y => [(11, .int .i64 (y.1:Int))]) (fun y => [(6, .row 10 ((f.inodes.set I y.2.1).map cInode) []),(8, .row 1 (y.2.2.map cs) [])]) (fun y=>WI f I m y.2.1 y.2.2∧y.1≤(A + s.length - 1) / 32 + 1∧A < 32 * y.1 + 32∧wLoop f I A s ((A + s.length - 1) / 32 + 1 - y.1) y.1 y.2.1 y.2.2=W) (A / 32,{ x with size:=Z,blocks:=growB x.blocks m },f.data) (by simp [cInode,List.map_set]) ⟨hst,by simp only;omega,by simp only;omega,by rw [hW];rfl⟩ ?_
 rintro ⟨k,N,D⟩ n ⟨hw,hk1,hk2,hwl⟩ ih
 simp only at hw hk1 hk2 hwl ⊢
 have hsm:=hw.smF
 have hir:=hw.inR
 have hbl:=hw.len
 have hac:=hw.acl
 have hGget:((f.inodes.set I N).map cInode)[I]? = some (cInode N):=by simp [hlt]
 have hGs:∀ c,((f.inodes.set I N).map cInode |>.set I c)[I]? = some c:=fun c=>by simp [hlt]
 have hbs:∀ c,(k < N.blocks.length)→((N.blocks.map ci).set k c)[k]? = some c:=fun c h=>by simp [h]
 have hDg:∀ b:Nat,b < 56→(D.map cs)[b]? = some (cs (D.getD b [])):=fun b h=>by simp [show b < D.length by rw [hw.nd];exact h]
 have hGset:∀ c,((f.inodes.set I N).map cInode).set I (cInode c)=(f.inodes.set I c).map cInode:=fun c=>by simp [List.map_set]
 have hGl:(f.inodes.set I N).length=f.inodes.length:=by rw [List.length_set]
 have hDl:D.length=f.data.length:=by rw [hw.nd,hf.nd]
 have hnd:=hw.nd
 have htG:=takeM (f:=cInode) hGl
 have htD:=takeM (f:=cs) hDl
 have hI20:I < 20:=hI
 rcases Nat.lt_or_ge ((A + s.length - 1) / 32) k with hkt | hkt
 ·obtain rfl:k=(A + s.length - 1) / 32 + 1:=by omega
  rw [Nat.sub_self,wLoop] at hwl
  subst hwl
  generalize f.inodes.set I N=G at *
  (try simp -implicitDefEqProofs (disch:=first|exact dd|fail)[Try.f75,hlt,hGl,hDl,cInode]);(repeat'((with_reducible first|(refine Br.out ?_ ?_<;>intro h<;>(try(have h0:=h;simp only[bH]at h)))|fail)<;>(try simp -implicitDefEqProofs (disch:=first|exact dd|fail)[Try.f75,hlt,hGl,hDl,cInode])))
 have hkl:k < N.blocks.length:=by omega
 have hst2:(A + s.length - 1) / 32 + 1 - k=((A + s.length - 1) / 32 + 1 - (k + 1)) + 1:=by omega
 rw [hst2,wLoop] at hwl
 have hgd:N.blocks.getD k 0=N.blocks[k]:=by simp [hkl]
 have hwk:wBlk f I N k=if N.blocks[k] = -1 then nextB ⟨f.tick,f.quotas,f.inodes.set I N,D⟩ N.uid else (N.blocks[k],0):=by
  rw [wBlk,hgd]
  rfl
 have hfr:(if (A:Int) < (k:Int) * 32 then (k:Int) * 32 else (A:Int))=((wFrom A k:Nat):Int):=by
  unfold wFrom
  split<;>omega
 have hto:(if (k:Int) * 32 + 32 < (A:Int) + s.length then (k:Int) * 32 + 32 else (A:Int) + s.length)=((wTo A k s:Nat):Int):=by
  unfold wTo
  split<;>omega
 have hb1:32 * k≤wFrom A k∧A≤wFrom A k∧wFrom A k < wTo A k s∧wTo A k s≤A + s.length∧wTo A k s≤32 * k + 32:=by
  unfold wFrom wTo
  omega
 have hnx:=impl_nextBlock none none none ⟨f.tick,f.quotas,f.inodes.set I N,D⟩ N.uid hsm hir hw.uid hw.nq
 have hok2:=fun h0=>wBlk_ok hw (by omega:k < m) h0
 have hstep:=fun h0=>hw.step (by omega:k < m) h0 hk2 (by omega:32 * k < A + s.length)
 by_cases hb:N.blocks[k] = -1
 ·rw [if_pos hb] at hwk
  generalize nextB ⟨f.tick,f.quotas,f.inodes.set I N,D⟩ N.uid=r at *
  rw [hwk] at hwl hok2 hstep
  obtain ⟨B,e⟩:=r
  simp only at hwl hok2 hstep hnx
  by_cases he0:e=0
  ·subst he0
   obtain ⟨b,rfl,hb56⟩:=hok2 rfl
   rw [if_pos rfl] at hwl
   have hj:=ih (k + 1,wN N k b,wD D b A k s) ⟨hstep rfl,by simp only;omega,by simp only;omega,hwl⟩ (by simp only;omega)
   generalize f.inodes.set I N=G at *
   have hbs:=fun c=>hbs c hkl
   have hbD:b < D.length:=by omega
   have hOl:=hw.secs _ (List.getElem_mem hbD)
   obtain ⟨O,hO⟩:∃ O,D[b]=O:=⟨_,rfl⟩
   rw [hO] at hOl
   (try simp -implicitDefEqProofs (disch:=first|exact dd|fail)[Try.f75,hlt,hkl,hkt,hGget,hGs,hbs,hO,hOl,htG,htD,hGl,hDl,hnd,hb,hb56,hfr,hto,cInode]);(repeat'((with_reducible first|(refine Br.out ?_ ?_<;>intro h<;>(try(have h0:=h;simp only[bH]at h)))|refine AC_snd (hnx) ?_|fail)<;>(try simp -implicitDefEqProofs (disch:=first|exact dd|fail)[Try.f75,hlt,hkl,hkt,hGget,hGs,hbs,hO,hOl,htG,htD,hGl,hDl,hnd,hb,hb56,hfr,hto,cInode])))
   have h6:(List.map cInode G).set I [.int .i64 N.kind, .int .i64 N.mode, .int .i64 N.uid, .int .i64 N.gid, .int .i64 N.links, .int .i64 N.size, .int .i64 N.tick, .row 1 ((List.map ci N.blocks).set k [.int .i64 b]), .row 3 (N.acl.map cAcl), .row 3 (N.dflt.map cAcl)]=(f.inodes.set I (wN N k b)).map cInode:=by
    rw [←hGset (wN N k b)]
    simp only [cInode,wN,List.map_set,ci]
   have h8:=wD_cells hbD hO hOl hb1
   rw [←h6,←h8] at hj
   all_goals first | exact hj
  ·rw [if_neg he0] at hwl
   subst hwl
   generalize f.inodes.set I N=G at *
   (try simp -implicitDefEqProofs (disch:=first|exact dd|fail)[Try.f75,hlt,hkl,hkt,hGget,htG,htD,hGl,hDl,hb,he0,cInode]);(repeat'((with_reducible first|(refine Br.out ?_ ?_<;>intro h<;>(try(have h0:=h;simp only[bH]at h)))|refine AC_snd (hnx) ?_|fail)<;>(try simp -implicitDefEqProofs (disch:=first|exact dd|fail)[Try.f75,hlt,hkl,hkt,hGget,htG,htD,hGl,hDl,hb,he0,cInode])))
 ·rw [if_neg hb] at hwk
  rw [hwk,if_pos rfl] at hwl
  rw [hwk] at hok2 hstep
  obtain ⟨b,hbk,hb56⟩:=hok2 rfl
  simp only at hbk hstep
  have hj:=ih (k + 1,wN N k N.blocks[k],wD D N.blocks[k] A k s) ⟨hstep trivial,by simp only;omega,by simp only;omega,hwl⟩ (by simp only;omega)
  rw [wN_same hkl rfl] at hj
  rw [hbk] at hj
  have hb':¬ (b:Int) = -1:=by omega
  have hbD:b < D.length:=by omega
  have hOl:=hw.secs _ (List.getElem_mem hbD)
  obtain ⟨O,hO⟩:∃ O,D[b]=O:=⟨_,rfl⟩
  rw [hO] at hOl
  generalize f.inodes.set I N=G at *
  (try simp -implicitDefEqProofs (disch:=first|exact dd|fail)[Try.f75,hlt,hkl,hkt,hGget,hO,hOl,hbk,hb',htG,htD,hGl,hDl,hnd,hb56,hfr,hto,cInode]);(repeat'((with_reducible first|(refine Br.out ?_ ?_<;>intro h<;>(try(have h0:=h;simp only[bH]at h)))|fail)<;>(try simp -implicitDefEqProofs (disch:=first|exact dd|fail)[Try.f75,hlt,hkl,hkt,hGget,hO,hOl,hbk,hb',htG,htD,hGl,hDl,hnd,hb56,hfr,hto,cInode])))
  have h8:=wD_cells hbD hO hOl hb1
  simp only at hj
  rw [←h8] at hj
  all_goals first | exact hj
set_option maxHeartbeats 4000000
set_option maxRecDepth 8000
theorem putS_take {old s:Str} {a k:Nat} (h:a + k < old.length) (hk:k < s.length):(putS old a (a + k) (s.take k)).set (a + k) s[k]=putS old a (a + (k + 1)) (s.take (k + 1)):=by
 have hl:(old.take a++s.take k).length=a + k:=by simp;omega
 have hd:old.drop (a + k)=old[a + k] :: old.drop (a + (k + 1)):=List.drop_eq_getElem_cons h
 unfold putS
 rw [hd,List.set_append_right _ _ (by omega),hl,Nat.sub_self,List.set_cons_zero,List.take_succ_eq_append_getElem hk]
 simp only [List.append_assoc,List.cons_append,List.nil_append]
set_option maxHeartbeats 4000000
set_option maxRecDepth 8000
noncomputable def writeB (f:DFS) (i a:Int) (s:Str):DFS × Int:=if isFS f && hasI f i then (if (writeF f i a s).2=0 then (writeF f i a s).1 else f,(writeF f i a s).2) else (f,1)
theorem impl_WriteBytes1 (f:DFS) (i a:Int) (s:Str) (hs:SmF f) (hf:IsFS f) (hi:hasI f i=true) (hl:s.length≤1048576) (ha:a≤9223372036854775807):Snd Try.prog 74 [wFS f, .fptr [.int .i64 i], .fptr [.int .i64 a], .fptr [.str s]] (.int .i64 (writeF f i a s).2) [wFS (writeF f i a s).1, .unk, .unk, .unk]:=Runs.snd (M:=M) (c:=⟨1,[1,2,3,5],[],[]⟩) tok ks mixed Try.func74 (p := [0]) (by kernel_rfl) (by rfl) (by rfl) <| by
 have hc:=impl_write f i a s hs hf hi hl ha
 generalize writeF f i a s=r at *
 obtain ⟨g,e⟩:=r
 (try simp -implicitDefEqProofs (disch:=first|exact dd|fail)[Try.f74]);(repeat'((with_reducible first|(refine Br.out ?_ ?_<;>intro h<;>(try(have h0:=h;simp only[bH]at h)))|refine AC_snd (hc) ?_|fail)<;>(try simp -implicitDefEqProofs (disch:=first|exact dd|fail)[Try.f74])))
theorem impl_changed_WriteBytes (n1 n2 n3:Option Bool) (f:DFS) (i a:Int) (s:Str) (hs:SmF f) (hf:IsFS f) (hi:hasI f i=true) (hl:s.length≤1048576) (ha:a≤9223372036854775807):Snd Try.prog 62 [fFS n1 n2 n3 f, .fn 74 [.fptr [.int .i64 i], .fptr [.int .i64 a], .fptr [.str s]]] (.tup [rFS (if (writeF f i a s).2=0 then (writeF f i a s).1 else f), .int .i64 (writeF f i a s).2]) [.unk, .unk]:=Runs.snd (M:=M) (c:=⟨2,[2,4,5,6,7,13],[],[]⟩) tok ks mixed Try.func62 (p := []) (by kernel_rfl) (by rfl) (by rfl) <| by
 have hc:=impl_WriteBytes1 f i a s hs hf hi hl ha
 generalize writeF f i a s=r at *
 obtain ⟨g,e⟩:=r
 by_cases he:e=0
 ·subst he
  simp only [if_true]
  (try simp -implicitDefEqProofs (disch:=first|exact dd|fail)[Try.f62]);(repeat'((with_reducible first|(refine Br.out ?_ ?_<;>intro h<;>(try(have h0:=h;simp only[bH]at h)))|refine AC_snd (impl_copyFS _ _ _ f hs) ?_|refine AC_snd (hc) ?_|fail)<;>(try simp -implicitDefEqProofs (disch:=first|exact dd|fail)[Try.f62])))
 ·simp only [he,if_false]
  (try simp -implicitDefEqProofs (disch:=first|exact dd|fail)[Try.f62,he]);(repeat'((with_reducible first|(refine Br.out ?_ ?_<;>intro h<;>(try(have h0:=h;simp only[bH]at h)))|refine AC_snd (impl_copyFS _ _ _ f hs) ?_|refine AC_snd (hc) ?_|fail)<;>(try simp -implicitDefEqProofs (disch:=first|exact dd|fail)[Try.f62,he])))
theorem impl_WriteBytes (n1 n2 n3:Option Bool) (f:DFS) (i a:Int) (s:Str) (hs:SmF f) (hl:s.length≤1048576) (ha:a≤9223372036854775807):Snd Try.prog 26 [fFS n1 n2 n3 f, .int .i64 i, .int .i64 a, .str s] (.tup [rFS (writeB f i a s).1, .int .i64 (writeB f i a s).2]) [.unk, .unk, .unk, .unk]:=Runs.snd (M:=M) (c:=⟨4,[4,5,6,7,8,9,13],[],[]⟩) tok ks mixed Try.func26 (p := []) (by kernel_rfl) (by rfl) (by rfl) <| by
 by_cases hu:(isFS f && hasI f i)=true
 ·have hu2:=Bool.and_eq_true_iff.1 hu
  rw [writeB,if_pos hu]
  (try simp -implicitDefEqProofs (disch:=first|exact dd|fail)[Try.f26,hu]);(repeat'((with_reducible first|(refine Br.out ?_ ?_<;>intro h<;>(try(have h0:=h;simp only[bH]at h)))|refine AC_snd (impl_inUse _ _ _ f _ hs) ?_|refine AC_snd (impl_changed_WriteBytes _ _ _ f i a s hs (tr_iff.1 hu2.1) hu2.2 hl ha) ?_|fail)<;>(try simp -implicitDefEqProofs (disch:=first|exact dd|fail)[Try.f26,hu])))
 ·have hu':(isFS f && hasI f i)=false:=by simpa using hu
  rw [writeB,if_neg hu]
  (try simp -implicitDefEqProofs (disch:=first|exact dd|fail)[Try.f26,hu']);(repeat'((with_reducible first|(refine Br.out ?_ ?_<;>intro h<;>(try(have h0:=h;simp only[bH]at h)))|refine AC_snd (impl_inUse _ _ _ f _ hs) ?_|refine AC_snd (impl_copyFS _ _ _ f hs) ?_|fail)<;>(try simp -implicitDefEqProofs (disch:=first|exact dd|fail)[Try.f26,hu'])))
end Go.Proofs.Ytfkkfhafijgdaaa
