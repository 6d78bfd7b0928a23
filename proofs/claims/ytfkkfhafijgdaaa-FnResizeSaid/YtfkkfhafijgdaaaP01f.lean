import Derived.Test.YtfkkfhafijgdaaaP01e
import Derived.Test.YtfkkfhafijgdaaaP14
import Derived.Test.YtfkkfhafijgdaaaMD
import Derived.Test.YtfkkfhafijgdaaaP02
import Derived.Test.YtfkkfhafijgdaaaP12
namespace Go.Proofs.Ytfkkfhafijgdaaa
open Go.Fw
set_option linter.unusedVariables false
set_option linter.unusedSimpArgs false
set_option maxHeartbeats 4000000
set_option maxRecDepth 8000
theorem dir_text {f:DFS} {d k:Nat} (hf:IsFS f) (hd:d < 20) (hk:DirK f d k) (hk1:k≤1):(contentN f.data (inodeAt f d)).length=16 * k:=by
 have h1:=contentN_len hf (n:=inodeAt f d) (by
  have hdl:d < f.inodes.length:=by rw [hf.ni];exact hd
  rw [inodeAt_nat hdl]
  exact List.getElem_mem hdl)
 by_cases h0:k=0
 ·have:=(hk.zero h0).2
  omega
 ·obtain ⟨b,_,e⟩:=hk.one (by omega)
  omega
abbrev nBZ (n:DInode) (B:List Int) (Z:Int):DInode:=⟨n.kind,n.mode,n.uid,n.gid,n.links,Z,n.tick,B,n.acl,n.dflt⟩
structure AddI (f:DFS) (i:Nat) (n:DInode) (L:List Str) (j:Nat) (g:DFS) (B:List Int) (Z:Int):Prop where
 fs:IsFS g
 ok:InodeOK (nBZ n B Z)
 at_:nBZ n B Z=inodeAt g i∨(inodeAt g i).kind=0∧B = []
 len:B.length=j
 full:j < L.length→Z=32 * j
 run:drawB i g (nBZ n B Z) (L.drop j)=drawB i f (nBZ n [] 0) L
 tick:g.tick=f.tick
 quotas:g.quotas=f.quotas
 other:∀ k:Int,k.toNat≠i→inodeAt g k=inodeAt f k
 le:j≤L.length
 zero:j=0→Z=0
 rng:∀ b ∈ B,0≤b∧b < 56
theorem AddI.start {f:DFS} {i:Nat} {n:DInode} {L:List Str} (hf:IsFS f) (hn:InodeOK (nBZ n [] 0)) (hfree:(inodeAt f i).kind=0):AddI f i n L 0 f [] 0:=by
 exact ⟨hf,hn, .inr ⟨hfree,rfl⟩,rfl,fun _=>rfl,rfl,rfl,rfl,fun _ _=>rfl,Nat.zero_le _,fun _=>rfl,fun b hb=>by simp at hb⟩
theorem AddI.step {f g:DFS} {i j:Nat} {n:DInode} {L:List Str} {B:List Int} {Z:Int} {b:Nat} (h:AddI f i n L j g B Z) (hi:i < 20) (h8:L.length≤8) (hs:∀ t ∈ L,0 < t.length∧t.length≤32) (hl:∀ t ∈ L.dropLast,t.length=32) (hj:j < L.length) (hb:(nextB g n.uid).1=b) (h0:(nextB g n.uid).2=0) :
  AddI f i n L (j + 1) ⟨g.tick,g.quotas,g.inodes.set i (nBZ n (B ++ [(b:Int)]) (Z + L[j].length)),g.data.set b (padTo L[j] 32)⟩ (B ++ [(b:Int)]) (Z + L[j].length)∧b < 56:=by
 have hil:i < g.inodes.length:=by rw [h.fs.ni];exact hi
 have hz:=h.full hj
 have hlen:=h.len
 have hB:=(IsFS.blk (n:=nBZ n B Z) ⟨h.fs,hi,h.ok,by show Z=32 * (B.length:Int);omega,by show B.length < 8;omega,h.at_⟩ (hs _ (List.getElem_mem hj)) hb h0)
 have e:blkF g i (nBZ n B Z) L[j] (b:Int)=⟨g.tick,g.quotas,g.inodes.set i (nBZ n (B ++ [(b:Int)]) (Z + L[j].length)),g.data.set b (padTo L[j] 32)⟩:=by
  unfold blkF blkN
  simp only [Int.toNat_natCast]
 rw [e] at hB
 refine ⟨⟨hB.1,hB.2.1, .inl ?_,by simp [hlen],fun h1 => ?_,?_,h.tick,h.quotas,fun k hk => ?_,by omega,fun h=>by omega,fun a ha => ?_⟩,hB.2.2⟩
 ·rw [inodeAt_set hil,if_pos (by simp)]
 ·have h2:=hl L[j] (by
   rw [List.dropLast_eq_take]
   refine List.mem_of_getElem? (i:=j) ?_
   rw [List.getElem?_take,if_pos (by omega),List.getElem?_eq_getElem hj])
  omega
 ·rw [←h.run,List.drop_eq_getElem_cons hj,drawB,if_pos h0,hb,e]
  rfl
 ·rw [inodeAt_set hil,if_neg (by simpa using hk)]
  exact h.other k hk
 ·rcases List.mem_append.1 ha with h1 | h1
  ·exact h.rng a h1
  ·rw [List.mem_singleton] at h1
   have:=hB.2.2
   omega
theorem AddI.used {f g:DFS} {i j:Nat} {n:DInode} {L:List Str} {B:List Int} {Z:Int} (h:AddI f i n L j g B Z):UsedOK g.inodes:=⟨h.fs.own,h.fs.once⟩
theorem spec_l08Add (n2 n3:Option Bool) (f:DFS) (d i k:Nat) (c:UInt8) (n:DInode) (s:Str) (hf:IsFS f) (hd:d < 20) (hi:i < 20) (hne:i≠d) (hi0:i≠0) (hk:DirK f d k) (hk1:k≤1) (hfree:(inodeAt f i).kind=0) (hn:InodeOK (nBZ n [] 0)) (hs:s.length≤256) :
  Snd Try.prog 111 [rFS f, .int .i64 d,   .str [c], .int .i64 i,fInode (some true) n2 n3 (nBZ n [] 0), .str s] (rFS (addL f d i (nBZ n [] 0) (cut32 s) (recD i [c]))) [.unk, .unk, .unk, .unk, .unk, .unk]:=Runs.snd (M:=M) (c:=⟨6,[6,10,12,14,15,16,17,18,19,20,21,22,24,25,26,28,29,30,31,42,102,111,118,119,120,121,138,139,140,141],[],[(1,[0,1,2,3,4,5,6,10,12,17,18,19,20,21,22,24,25,26,28,29,30,31,42,102,111,118,119,120,121,138,139,140,141]),(3,[0,1,2,3,4,5,6,10,12,14,15,16,17,18,19,20,21,22,25,26,28,29,30,31,42,102,111,118,119,120,121,138,139,140,141]),(5,[0,1,2,3,4,5,6,10,12,14,15,16,17,18,19,20,21,22,24,28,29,30,31,42,102,111,118,119,120,121,138,139,140,141])]⟩) tok ks mixed Try.func111 (p := [0]) (by kernel_rfl) (by rfl) (by rfl) <| by
 have c1:=spec_CutAll s 32 (by decide) (by decide) (by omega)
 have hcut:=cut32_ok hs
 rw [show cutN s 32 (nChunks s 32)=cut32 s from rfl] at c1
 obtain ⟨L,hL⟩:∃ L,L=cut32 s:=⟨_,rfl⟩
 rw [←hL] at c1 hcut ⊢
 have hLl:L.length≤8:=hcut.1
 obtain ⟨R,hR⟩:∃ R,R=addL f d i (nBZ n [] 0) L (recD i [c]):=⟨_,rfl⟩
 rw [←hR]
 have q4:=hf.nq
 have q20:=hf.ni
 have q56:=hf.nd
 (try simp -implicitDefEqProofs (disch:=first|exact dd|fail)[Try.f111,q4,q20,q56]);(repeat'((with_reducible first|(refine Br.out ?_ ?_<;>intro h<;>(try(have h0:=h;simp only[bH]at h)))|refine AC_snd (c1) ?_|fail)<;>(try simp -implicitDefEqProofs (disch:=first|exact dd|fail)[Try.f111,q4,q20,q56])))
 refine AL_up (ι:=Nat × DFS × List Int × Int) (fun x=>L.length - x.1) (fun x => [(30, .int .i64 x.1)]) (fun x=>(6, .row 10 (x.2.1.inodes.map cInode) []) :: (8, .row 1 (x.2.1.data.map cs) []) :: if x.1=0 then [] else [(1280, .box [.int .i64 n.kind, .int .i64 n.mode, .int .i64 n.uid, .int .i64 n.gid, .int .i64 n.links, .int .i64 x.2.2.2, .int .i64 n.tick, .ref 1296 none 1 0 x.1 none, .frz 3 n2 (n.acl.map cAcl), .frz 3 n3 (n.dflt.map cAcl)]),(1296, .row 1 (x.2.2.1.map ci) [])]) (fun x=>AddI f i n L x.1 x.2.1 x.2.2.1 x.2.2.2) (0,f,[],0) rfl (AddI.start hf hn hfree) ?_
 rintro ⟨j,g,B,Z⟩ n9 hI ih
 simp only at hI
 have hsm:=SmF.of hI.fs
 have g4:=hI.fs.nq
 have g20:=hI.fs.ni
 have g56:=hI.fs.nd
 have cN:=spec_l08NextBlock none none none g n.uid hsm hI.fs.inode hI.used hn.uid g4 g20
 simp only [fFS,hI.tick,hI.quotas] at cN
 have htq:=takeM (f:=cQuota) q4
 have hti:=takeM (f:=cInode) g20
 have htd:=takeM (f:=cs) g56
 by_cases hgo:j < L.length∧(nextB g n.uid).2=0
 ·obtain ⟨hlt,h0⟩:=hgo
  obtain ⟨b,hbb,-⟩:=nextB_ok hn.uid h0
  obtain ⟨hst,hb56⟩:=hI.step hi hLl hcut.2.1 hcut.2.2 hlt hbb h0
  have hjj:=ih (j + 1,_,_,_) hst (by simp only;omega)
  simp only [List.map_set,List.map_append,List.map_cons,List.map_nil,cInode,cs,ci,Nat.add_eq_zero_iff,Nat.one_ne_zero,and_false,if_false] at hjj
  have hsmI:=(SmF.of hst.fs).inode _ (List.mem_set (by omega) _)
  have cC:=spec_l07Copy none n2 n3 _ hsmI
  simp only [fInode,rInode,List.map_append,List.map_cons,List.map_nil,ci] at cC
  have cP:=spec_PadTo L[j] 32 (by decide) (by have:=(hcut.2.1 _ (List.getElem_mem hlt)).2;omega)
  have hBl:=hI.len
  rw [hbb,h0] at cN
  have hsl:=(hcut.2.1 _ (List.getElem_mem hlt)).2
  have hZ:=hI.full hlt
  have hL30:j≤1073741823:=by omega
  have hw:IntKind.i64.wrap (Z + (L[j].length:Int))=Z + L[j].length:=wrap64_in (by omega) (by omega)
  rcases j with _ | j
  ·have hB0:B = []:=List.length_eq_zero_iff.1 hBl
   have hZ0:Z=0:=by omega
   subst hB0 hZ0
   simp only [Int.zero_add,List.map_nil,List.nil_append] at hw hjj cC
   (try simp -implicitDefEqProofs (maxSteps:=2000000) (disch:=first|exact dd|fail)[Try.f111,hlt,hb56,hi,hw,g20,g56,htq,hti,htd,cInode]);(repeat'((with_reducible first|(refine Br.out ?_ ?_<;>intro h<;>(try(have h0:=h;simp only[bH]at h)))|refine AC_snd (cN) ?_|refine AC_snd (cP) ?_|refine AC_snd (cC) ?_|fail)<;>(try simp -implicitDefEqProofs (maxSteps:=2000000) (disch:=first|exact dd|fail)[Try.f111,hlt,hb56,hi,hw,g20,g56,htq,hti,htd,cInode])))
   all_goals first | exact hjj
  ·have htB:=takeM (f:=ci) hBl
   have htB2:=takeM (f:=ci) (xs:=B ++ [(b:Int)]) (n:=j + 1 + 1) (by simp [hBl])
   simp only [List.map_append,List.map_cons,List.map_nil,ci] at htB2
   (try simp -implicitDefEqProofs (maxSteps:=2000000) (disch:=first|exact dd|fail)[Try.f111,hlt,hb56,hi,hw,g20,g56,htq,hti,htd,htB,htB2,hBl,hL30,cInode]);(repeat'((with_reducible first|(refine Br.out ?_ ?_<;>intro h<;>(try(have h0:=h;simp only[bH]at h)))|refine AC_snd (cN) ?_|refine AC_snd (cP) ?_|refine AC_snd (cC) ?_|fail)<;>(try simp -implicitDefEqProofs (maxSteps:=2000000) (disch:=first|exact dd|fail)[Try.f111,hlt,hb56,hi,hw,g20,g56,htq,hti,htd,htB,htB2,hBl,hL30,cInode])))
   all_goals first | exact hjj
 have hqe:drawB i f (nBZ n [] 0) L=(g,nBZ n B Z):=by
  rw [←hI.run]
  by_cases hlt:j < L.length
  ·rw [List.drop_eq_getElem_cons hlt,drawB,if_neg (fun h=>hgo ⟨hlt,h⟩)]
  ·rw [List.drop_of_length_le (by omega)]
   rfl
 have hRe:R=dirAdd (setN g i (linkN (nBZ n B Z))) d i (recD i [c]):=by
  rw [hR,addL,hqe]
 have hlk:=hI.fs.link hi hI.ok hI.at_
 have hil:((i:Int)).toNat < g.inodes.length:=by rw [g20];simpa using hi
 have hxd:inodeAt (setN g i (linkN (nBZ n B Z))) (d:Int)=inodeAt f d:=by
  rw [setN_at hil,if_neg (by simp;omega),hI.other d (by simp;omega)]
 have hlsm:=SmF.of hlk
 have hGe:setN g i (linkN (nBZ n B Z))=⟨f.tick,f.quotas,g.inodes.set i ⟨n.kind,n.mode,n.uid,n.gid,1,Z,n.tick,B,n.acl,n.dflt⟩,g.data⟩:=by
  unfold setN linkN
  rw [hI.tick,hI.quotas,Int.toNat_natCast]
 have hxd2:(g.inodes.set i ⟨n.kind,n.mode,n.uid,n.gid,1,Z,n.tick,B,n.acl,n.dflt⟩)[d]? = some (inodeAt f d):=by
  have h1:=inodeAt_nat (f:=setN g i (linkN (nBZ n B Z))) (k:=d) (by rw [hlk.ni];exact hd)
  rw [hxd] at h1
  have h2:=List.getElem?_eq_getElem (l:=(setN g i (linkN (nBZ n B Z))).inodes) (i:=d) (by rw [hlk.ni];exact hd)
  rw [←h1] at h2
  rw [hGe] at h2
  exact h2
 have hmemd:inodeAt f d ∈ (setN g i (linkN (nBZ n B Z))).inodes:=by
  rw [hGe]
  exact List.mem_of_getElem? hxd2
 have cT:=fun a1 a2 a3 a4 a5 a6=>spec_l09Text a1 a2 a3 a4 a5 a6 (setN g i (linkN (nBZ n B Z))) (inodeAt f d) hlk hmemd
 have hcl:((contentN (setN g i (linkN (nBZ n B Z))).data (inodeAt f d)).length:Int)=(inodeAt f d).size:=contentN_len hlk hmemd
 have hxok:=hlk.inode _ hmemd
 have hxuid:IsUser (inodeAt f d).uid:=(isInode_ok (by rw [hk.kind];decide)).1 hxok |>.uid
 have hxsm:=hlsm.inode _ hmemd
 have cN2:=fun a1 a2 a3=>spec_l08NextBlock a1 a2 a3 (setN g i (linkN (nBZ n B Z))) (inodeAt f d).uid hlsm hlk.inode ⟨hlk.own,hlk.once⟩ hxuid hlk.nq hlk.ni
 have cC:=fun a=>spec_l07Copy a n2 n3 ⟨n.kind,n.mode,n.uid,n.gid,1,Z,n.tick,B,n.acl,n.dflt⟩ (by
  refine hlsm.inode _ ?_
  rw [hGe]
  exact List.mem_set (by omega) _)
 obtain ⟨G,hG⟩:∃ G,G=setN g i (linkN (nBZ n B Z)):=⟨_,rfl⟩
 rw [←hG] at hRe hlk hxd hlsm hGe hcl cT cN2
 have hgd:G.data=g.data:=by rw [hGe]
 have hgi:G.inodes.map cInode=(g.inodes.map cInode).set i (cInode ⟨n.kind,n.mode,n.uid,n.gid,1,Z,n.tick,B,n.acl,n.dflt⟩):=by rw [hGe,List.map_set]
 have hgt:G.tick=f.tick:=by rw [hGe]
 have hgq:G.quotas=f.quotas:=by rw [hGe]
 have hdG:d < G.inodes.length:=by rw [hlk.ni];exact hd
 have hgx:G.inodes[d]=inodeAt f d:=by rw [←inodeAt_nat hdG,hxd]
 have h20:G.inodes.length=20:=hlk.ni
 have htG:=takeM (f:=cInode) h20
 simp only [fFS,hgd,hgt,hgq] at cT cN2
 rw [hgd] at hcl
 have hW:(recD i [c]).length=16:=recD_len
 have hp1:=spec_PutNumber ((i:Int) + 1) 2 (by decide) (by decide)
 have hp2:=spec_PutNumber 1 1 (by decide) (by decide)
 have hp1l:=putN_len ((i:Int) + 1) 2
 have hp2l:=putN_len 1 1
 have hp3:=spec_PadTo (putN ((i:Int) + 1) 2++putN 1 1 ++ [c]) 16 (by decide) (by simp;omega)
 have hWe:padTo (putN ((i:Int) + 1) 2++putN 1 1 ++ [c]) 16=recD i [c]:=rfl
 rw [hWe,List.append_assoc] at hp3
 have hwi:IntKind.i64.wrap ((i:Int) + 1)=i + 1:=wrap64_in (by omega) (by omega)
 have hxb:k=0∧(inodeAt f d).blocks = []∧(inodeAt f d).size=0∨k=1∧∃ b:Nat,(inodeAt f d).blocks = [(b:Int)]∧(inodeAt f d).size=16:=by
  by_cases h0:k=0
  ·exact .inl ⟨h0,hk.zero h0⟩
  ·exact .inr ⟨by omega,hk.one (by omega)⟩
 have hRe2:R=dirAdd G d i (recD i [c]):=hRe
 unfold dirAdd at hRe2
 rw [hxd] at hRe2
 obtain ⟨x,hx⟩:∃ x,x=inodeAt f d:=⟨_,rfl⟩
 rw [←hx] at hRe2 hxb hgx hcl cT cN2 hxuid hxsm
 obtain ⟨W,hWW⟩:∃ W,W=recD i [c]:=⟨_,rfl⟩
 rw [←hWW] at hRe2 hp3 hW
 obtain ⟨C,hC⟩:∃ C,C=contentN g.data x:=⟨_,rfl⟩
 rw [←hC] at hcl cT
 simp only [fInode] at cT
 simp only [fInode,rInode] at cC
 have hgi2:=hgi.symm
 simp only [cInode] at hgi2
 have hlt:¬ (j < L.length∧(nextB g n.uid).2=0):=hgo
 have hBl:=hI.len
 have hle1:(putN ((i:Int) + 1) 2).length + (putN 1 1).length≤1073741824:=by omega
 have hle2:(putN ((i:Int) + 1) 2).length + ((putN 1 1).length + 1)≤1073741824:=by omega
 have hle3:(putN ((i:Int) + 1) 2).length + (putN 1 1).length + 1≤1073741824:=by omega
 have hb16:blocksNeeded 16=1:=by decide
 have hb32:blocksNeeded 32=1:=by decide
 have cB16:=spec_BlocksNeeded 16 (by decide)
 have cB32:=spec_BlocksNeeded 32 (by decide)
 rw [hb16] at cB16
 rw [hb32] at cB32
 have hns:nChunks W 32=1:=by unfold nChunks;rw [hW]
 have hcW:cutN W 32 1 = [W]:=by simp [cutN,chunk,List.range_succ];exact List.take_of_length_le (by omega)
 have cCut:=spec_CutAll W 32 (by decide) (by decide) (by omega)
 rw [hns,hcW] at cCut
 have cPW:=spec_PadTo W 32 (by decide) (by omega)
 simp only [List.map_cons,List.map_nil,cs] at cCut
 have hself:∀ v:List AV,((G.inodes.map cInode).set d v)[d]? = some v:=fun v=>List.getElem?_set_self (by rw [List.length_map,h20];exact hd)
 have hta:=takeM (f:=cAcl) (rfl:x.acl.length=x.acl.length)
 have htf:=takeM (f:=cAcl) (rfl:x.dflt.length=x.dflt.length)
 have hCW:C.length + 16≤1073741824:=by
  rcases hxb with ⟨_,_,h⟩ | ⟨_,_,_,h⟩<;>omega
 by_cases hj0:0 < j
 ·have htB:=takeM (f:=ci) hBl
  have hj1:¬ j=0:=by omega
  simp only [hj1,if_false]
  rcases hxb with ⟨rfl,hxb0,hxz⟩ | ⟨rfl,b0,hxb1,hxz⟩
  ·have hC0:C = []:=List.length_eq_zero_iff.1 (by omega)
   subst hC0
   simp only [hxb0,hxz,List.map_nil] at cT
   by_cases hnb:(nextB G x.uid).2=0
   ·obtain ⟨b,hbb,hb56,-⟩:=nextB_ok hxuid hnb
    rw [hbb,hnb] at cN2
    have hRf:R=blkF G d x W b:=by rw [hRe2,if_pos hxz,if_pos hnb,hbb]
    have r1:R.tick=f.tick:=by rw [hRf];exact hgt
    have r2:R.quotas=f.quotas:=by rw [hRf];exact hgq
    have r3:R.inodes.map cInode=(G.inodes.map cInode).set d [.int .i64 x.kind, .int .i64 x.mode, .int .i64 x.uid, .int .i64 x.gid, .int .i64 x.links, .int .i64 16, .int .i64 x.tick, .row 1 [[.int .i64 b]], .row 3 (x.acl.map cAcl), .row 3 (x.dflt.map cAcl)]:=by
     rw [hRf,blkF,List.map_set]
     simp only [blkN,cInode,hxb0,hxz,hW,List.nil_append,List.map_cons,List.map_nil,ci]
     rfl
    have r4:R.data.map cs=(g.data.map cs).set b [.str (padTo W 32)]:=by rw [hRf,blkF,List.map_set,hgd,Int.toNat_natCast];rfl
    by_cases hjl:j < L.length
    ·have hq:¬ (nextB g n.uid).2=0:=fun h=>hgo ⟨hjl,h⟩
     (try simp -implicitDefEqProofs (maxSteps:=2000000) (disch:=first|exact dd|fail)[Try.f111,hjl,hq,hxb0,hxz,hb56,hd,hi,hwi,hW,hle1,hle2,hle3,hgi2,h20,hdG,hgx,htG,g20,g56,htq,hti,htd,htB,hBl,cInode]);(repeat'((with_reducible first|(refine Br.out ?_ ?_<;>intro h<;>(try(have h0:=h;simp only[bH]at h)))|refine AC_snd (cN) ?_|refine AC_snd (cC _) ?_|refine AC_snd (cT _ _ _ _ _ _) ?_|refine AC_snd (hp1) ?_|refine AC_snd (hp2) ?_|refine AC_snd (hp3) ?_|refine AC_snd (cB16) ?_|refine AC_snd (cN2 _ _ _) ?_|refine AC_snd (cCut) ?_|fail)<;>(try simp -implicitDefEqProofs (maxSteps:=2000000) (disch:=first|exact dd|fail)[Try.f111,hjl,hq,hxb0,hxz,hb56,hd,hi,hwi,hW,hle1,hle2,hle3,hgi2,h20,hdG,hgx,htG,g20,g56,htq,hti,htd,htB,hBl,cInode])))
     refine AL_up (fun (t:Nat)=>1 - t) (fun (t:Nat) => [(140, .int .i64 t)]) (fun (t:Nat) => [(8, .row 1 ((if t=0 then g.data else g.data.set b (padTo W 32)).map cs) [])]) (fun t=>t≤1) 0 (by simp) (by omega) ?_
     intro t n8 ht jh
     rcases Nat.eq_zero_or_pos t with ht0 | ht0
     ·subst ht0
      have hjj:=jh 1 (by omega) (by omega)
      simp only [Nat.one_ne_zero,if_false,List.map_set,cs] at hjj
      (try simp -implicitDefEqProofs (maxSteps:=2000000) (disch:=first|exact dd|fail)[Try.f111,hb56,q4,hd,hi,hW,h20,hdG,hgx,htG,g20,g56,htq,hti,htd,hself,hta,htf,cInode]);(repeat'((with_reducible first|(refine Br.out ?_ ?_<;>intro h<;>(try(have h0:=h;simp only[bH]at h)))|refine AC_snd (cPW) ?_|fail)<;>(try simp -implicitDefEqProofs (maxSteps:=2000000) (disch:=first|exact dd|fail)[Try.f111,hb56,q4,hd,hi,hW,h20,hdG,hgx,htG,g20,g56,htq,hti,htd,hself,hta,htf,cInode])))
      all_goals first | exact hjj
     ·have ht1:t=1:=by omega
      subst ht1
      simp only [Nat.one_ne_zero,if_false,List.map_set,cs]
      (try simp -implicitDefEqProofs (maxSteps:=2000000) (disch:=first|exact dd|fail)[Try.f111,hb56,q4,hd,hi,hW,h20,hdG,hgx,htG,g20,g56,htq,hti,htd,hself,hta,htf,cInode,r1,r2,r3,r4]);(repeat'((with_reducible first|(refine Br.out ?_ ?_<;>intro h<;>(try(have h0:=h;simp only[bH]at h)))|fail)<;>(try simp -implicitDefEqProofs (maxSteps:=2000000) (disch:=first|exact dd|fail)[Try.f111,hb56,q4,hd,hi,hW,h20,hdG,hgx,htG,g20,g56,htq,hti,htd,hself,hta,htf,cInode,r1,r2,r3,r4])))
    ·have hq:True:=trivial
     (try simp -implicitDefEqProofs (maxSteps:=2000000) (disch:=first|exact dd|fail)[Try.f111,hjl,hq,hxb0,hxz,hb56,hd,hi,hwi,hW,hle1,hle2,hle3,hgi2,h20,hdG,hgx,htG,g20,g56,htq,hti,htd,htB,hBl,cInode]);(repeat'((with_reducible first|(refine Br.out ?_ ?_<;>intro h<;>(try(have h0:=h;simp only[bH]at h)))|refine AC_snd (cN) ?_|refine AC_snd (cC _) ?_|refine AC_snd (cT _ _ _ _ _ _) ?_|refine AC_snd (hp1) ?_|refine AC_snd (hp2) ?_|refine AC_snd (hp3) ?_|refine AC_snd (cB16) ?_|refine AC_snd (cN2 _ _ _) ?_|refine AC_snd (cCut) ?_|fail)<;>(try simp -implicitDefEqProofs (maxSteps:=2000000) (disch:=first|exact dd|fail)[Try.f111,hjl,hq,hxb0,hxz,hb56,hd,hi,hwi,hW,hle1,hle2,hle3,hgi2,h20,hdG,hgx,htG,g20,g56,htq,hti,htd,htB,hBl,cInode])))
     refine AL_up (fun (t:Nat)=>1 - t) (fun (t:Nat) => [(140, .int .i64 t)]) (fun (t:Nat) => [(8, .row 1 ((if t=0 then g.data else g.data.set b (padTo W 32)).map cs) [])]) (fun t=>t≤1) 0 (by simp) (by omega) ?_
     intro t n8 ht jh
     rcases Nat.eq_zero_or_pos t with ht0 | ht0
     ·subst ht0
      have hjj:=jh 1 (by omega) (by omega)
      simp only [Nat.one_ne_zero,if_false,List.map_set,cs] at hjj
      (try simp -implicitDefEqProofs (maxSteps:=2000000) (disch:=first|exact dd|fail)[Try.f111,hb56,q4,hd,hi,hW,h20,hdG,hgx,htG,g20,g56,htq,hti,htd,hself,hta,htf,cInode]);(repeat'((with_reducible first|(refine Br.out ?_ ?_<;>intro h<;>(try(have h0:=h;simp only[bH]at h)))|refine AC_snd (cPW) ?_|fail)<;>(try simp -implicitDefEqProofs (maxSteps:=2000000) (disch:=first|exact dd|fail)[Try.f111,hb56,q4,hd,hi,hW,h20,hdG,hgx,htG,g20,g56,htq,hti,htd,hself,hta,htf,cInode])))
      all_goals first | exact hjj
     ·have ht1:t=1:=by omega
      subst ht1
      simp only [Nat.one_ne_zero,if_false,List.map_set,cs]
      (try simp -implicitDefEqProofs (maxSteps:=2000000) (disch:=first|exact dd|fail)[Try.f111,hb56,q4,hd,hi,hW,h20,hdG,hgx,htG,g20,g56,htq,hti,htd,hself,hta,htf,cInode,r1,r2,r3,r4]);(repeat'((with_reducible first|(refine Br.out ?_ ?_<;>intro h<;>(try(have h0:=h;simp only[bH]at h)))|fail)<;>(try simp -implicitDefEqProofs (maxSteps:=2000000) (disch:=first|exact dd|fail)[Try.f111,hb56,q4,hd,hi,hW,h20,hdG,hgx,htG,g20,g56,htq,hti,htd,hself,hta,htf,cInode,r1,r2,r3,r4])))
   ·have hRf:R=freeF G i:=by rw [hRe2,if_pos hxz,if_neg hnb]
    have hne0:¬ (nextB G x.uid).2=0:=hnb
    have hiG:i < G.inodes.length:=by rw [h20];exact hi
    have hBi:(inodeAt G i).blocks=B:=by
     rw [hGe]
     have h1:=inodeAt_set (f:=g) (n:=⟨n.kind,n.mode,n.uid,n.gid,1,Z,n.tick,B,n.acl,n.dflt⟩) (D:=g.data) (k:=i) (by rw [g20];exact hi) (i:Int)
     rw [if_pos (by simp)] at h1
     rw [hI.tick,hI.quotas] at h1
     rw [h1]
    have hBr:real B=B:=List.filter_eq_self.2 fun b hb=>by
     have:=hI.rng b hb
     simp
     omega
    have r1:R.tick=f.tick:=by rw [hRf];exact hgt
    have r2:R.quotas=f.quotas:=by rw [hRf];exact hgq
    have r3:R.inodes.map cInode=(G.inodes.map cInode).set i [.int .i64 0, .int .i64 0, .int .i64 0, .int .i64 0, .int .i64 0, .int .i64 0, .int .i64 0, .row 1 [], .row 3 [], .row 3 []]:=by
     rw [hRf,freeF,List.map_set,Int.toNat_natCast]
     rfl
    have r4:R.data=zeroR g.data B:=by
     rw [hRf,freeF,hBi,hBr,hgd]
    by_cases hjl:j < L.length
    ·have hq:¬ (nextB g n.uid).2=0:=fun h=>hgo ⟨hjl,h⟩
     (try simp -implicitDefEqProofs (maxSteps:=2000000) (disch:=first|exact dd|fail)[Try.f111,hjl,hq,hne0,hxb0,hxz,hd,hi,hwi,hW,hle1,hle2,hle3,hgi2,h20,hdG,hgx,htG,g20,g56,htq,hti,htd,htB,hBl,cInode]);(repeat'((with_reducible first|(refine Br.out ?_ ?_<;>intro h<;>(try(have h0:=h;simp only[bH]at h)))|refine AC_snd (cN) ?_|refine AC_snd (cC _) ?_|refine AC_snd (cT _ _ _ _ _ _) ?_|refine AC_snd (hp1) ?_|refine AC_snd (hp2) ?_|refine AC_snd (hp3) ?_|refine AC_snd (cB16) ?_|refine AC_snd (cN2 _ _ _) ?_|fail)<;>(try simp -implicitDefEqProofs (maxSteps:=2000000) (disch:=first|exact dd|fail)[Try.f111,hjl,hq,hne0,hxb0,hxz,hd,hi,hwi,hW,hle1,hle2,hle3,hgi2,h20,hdG,hgx,htG,g20,g56,htq,hti,htd,htB,hBl,cInode])))
     refine AL_up (fun (t:Nat)=>j - t) (fun (t:Nat) => [(120, .int .i64 t)]) (fun (t:Nat) => [(8, .row 1 ((zeroR g.data (B.take t)).map cs) [])]) (fun t=>t≤j) 0 (by simp [zeroR]) (by omega) ?_
     intro t n8 ht jh
     have hzl:(zeroR g.data (B.take t)).length=56:=by rw [zeroR_len];exact g56
     rcases Nat.lt_or_ge t j with ht0 | ht0
     ·have htB:t < B.length:=by omega
      have hjj:=jh (t + 1) (by omega) (by omega)
      have hbt:=hI.rng _ (List.getElem_mem htB)
      rw [zeroR_take htB,List.map_set] at hjj
      have hget:(B.map ci)[t]? = some [.int .i64 B[t]]:=by rw [List.getElem?_map,List.getElem?_eq_getElem htB];rfl
      generalize B[t]=bt at *
      obtain ⟨bn,rfl⟩:=Int.eq_ofNat_of_zero_le hbt.1
      have hbn:bn < 56:=by omega
      have hti0:(t:Int) < (j:Nat):=by omega
      simp only [Int.toNat_natCast,cs] at hjj
      have htz:=takeM (f:=cs) hzl
      have hjle:=hI.le
      have hwt:IntKind.i64.wrap ((t:Int) + 1)=t + 1:=wrap64_in (by omega) (by omega)
      generalize zeroR g.data (B.take t)=ZD at *
      (try simp -implicitDefEqProofs (maxSteps:=2000000) (disch:=first|exact dd|fail)[Try.f111,ht0,hwt,hti0,hget,hbn,hzl,htz,q4,hd,hi,hW,h20,hdG,hgx,htG,g20,g56,htq,hti,htd,hself,hta,htf,cInode]);(repeat'((with_reducible first|(refine Br.out ?_ ?_<;>intro h<;>(try(have h0:=h;simp only[bH]at h)))|refine AC_snd (spec_PadTo0) ?_|fail)<;>(try simp -implicitDefEqProofs (maxSteps:=2000000) (disch:=first|exact dd|fail)[Try.f111,ht0,hwt,hti0,hget,hbn,hzl,htz,q4,hd,hi,hW,h20,hdG,hgx,htG,g20,g56,htq,hti,htd,hself,hta,htf,cInode])))
      all_goals first | exact hjj
     ·have ht1:t=j:=by omega
      have hta1:B.take t=B:=List.take_of_length_le (by omega)
      rw [hta1] at hzl ⊢
      have hti0:¬ (t:Int) < (j:Nat):=by omega
      have r5:R.data.map cs=(zeroR g.data B).map cs:=by rw [r4]
      have htz:=takeM (f:=cs) hzl
      generalize zeroR g.data B=ZD at *
      subst ht1
      (try simp -implicitDefEqProofs (maxSteps:=2000000) (disch:=first|exact dd|fail)[Try.f111,hti0,hzl,htz,q4,hd,hi,hW,h20,hdG,hgx,htG,g20,g56,htq,hti,htd,hself,hta,htf,cInode,r1,r2,r3,r5]);(repeat'((with_reducible first|(refine Br.out ?_ ?_<;>intro h<;>(try(have h0:=h;simp only[bH]at h)))|fail)<;>(try simp -implicitDefEqProofs (maxSteps:=2000000) (disch:=first|exact dd|fail)[Try.f111,hti0,hzl,htz,q4,hd,hi,hW,h20,hdG,hgx,htG,g20,g56,htq,hti,htd,hself,hta,htf,cInode,r1,r2,r3,r5])))
    ·have hq:True:=trivial
     (try simp -implicitDefEqProofs (maxSteps:=2000000) (disch:=first|exact dd|fail)[Try.f111,hjl,hq,hne0,hxb0,hxz,hd,hi,hwi,hW,hle1,hle2,hle3,hgi2,h20,hdG,hgx,htG,g20,g56,htq,hti,htd,htB,hBl,cInode]);(repeat'((with_reducible first|(refine Br.out ?_ ?_<;>intro h<;>(try(have h0:=h;simp only[bH]at h)))|refine AC_snd (cN) ?_|refine AC_snd (cC _) ?_|refine AC_snd (cT _ _ _ _ _ _) ?_|refine AC_snd (hp1) ?_|refine AC_snd (hp2) ?_|refine AC_snd (hp3) ?_|refine AC_snd (cB16) ?_|refine AC_snd (cN2 _ _ _) ?_|fail)<;>(try simp -implicitDefEqProofs (maxSteps:=2000000) (disch:=first|exact dd|fail)[Try.f111,hjl,hq,hne0,hxb0,hxz,hd,hi,hwi,hW,hle1,hle2,hle3,hgi2,h20,hdG,hgx,htG,g20,g56,htq,hti,htd,htB,hBl,cInode])))
     refine AL_up (fun (t:Nat)=>j - t) (fun (t:Nat) => [(120, .int .i64 t)]) (fun (t:Nat) => [(8, .row 1 ((zeroR g.data (B.take t)).map cs) [])]) (fun t=>t≤j) 0 (by simp [zeroR]) (by omega) ?_
     intro t n8 ht jh
     have hzl:(zeroR g.data (B.take t)).length=56:=by rw [zeroR_len];exact g56
     rcases Nat.lt_or_ge t j with ht0 | ht0
     ·have htB:t < B.length:=by omega
      have hjj:=jh (t + 1) (by omega) (by omega)
      have hbt:=hI.rng _ (List.getElem_mem htB)
      rw [zeroR_take htB,List.map_set] at hjj
      have hget:(B.map ci)[t]? = some [.int .i64 B[t]]:=by rw [List.getElem?_map,List.getElem?_eq_getElem htB];rfl
      generalize B[t]=bt at *
      obtain ⟨bn,rfl⟩:=Int.eq_ofNat_of_zero_le hbt.1
      have hbn:bn < 56:=by omega
      have hti0:(t:Int) < (j:Nat):=by omega
      simp only [Int.toNat_natCast,cs] at hjj
      have htz:=takeM (f:=cs) hzl
      have hjle:=hI.le
      have hwt:IntKind.i64.wrap ((t:Int) + 1)=t + 1:=wrap64_in (by omega) (by omega)
      generalize zeroR g.data (B.take t)=ZD at *
      (try simp -implicitDefEqProofs (maxSteps:=2000000) (disch:=first|exact dd|fail)[Try.f111,ht0,hwt,hti0,hget,hbn,hzl,htz,q4,hd,hi,hW,h20,hdG,hgx,htG,g20,g56,htq,hti,htd,hself,hta,htf,cInode]);(repeat'((with_reducible first|(refine Br.out ?_ ?_<;>intro h<;>(try(have h0:=h;simp only[bH]at h)))|refine AC_snd (spec_PadTo0) ?_|fail)<;>(try simp -implicitDefEqProofs (maxSteps:=2000000) (disch:=first|exact dd|fail)[Try.f111,ht0,hwt,hti0,hget,hbn,hzl,htz,q4,hd,hi,hW,h20,hdG,hgx,htG,g20,g56,htq,hti,htd,hself,hta,htf,cInode])))
      all_goals first | exact hjj
     ·have ht1:t=j:=by omega
      have hta1:B.take t=B:=List.take_of_length_le (by omega)
      rw [hta1] at hzl ⊢
      have hti0:¬ (t:Int) < (j:Nat):=by omega
      have r5:R.data.map cs=(zeroR g.data B).map cs:=by rw [r4]
      have htz:=takeM (f:=cs) hzl
      generalize zeroR g.data B=ZD at *
      subst ht1
      (try simp -implicitDefEqProofs (maxSteps:=2000000) (disch:=first|exact dd|fail)[Try.f111,hti0,hzl,htz,q4,hd,hi,hW,h20,hdG,hgx,htG,g20,g56,htq,hti,htd,hself,hta,htf,cInode,r1,r2,r3,r5]);(repeat'((with_reducible first|(refine Br.out ?_ ?_<;>intro h<;>(try(have h0:=h;simp only[bH]at h)))|fail)<;>(try simp -implicitDefEqProofs (maxSteps:=2000000) (disch:=first|exact dd|fail)[Try.f111,hti0,hzl,htz,q4,hd,hi,hW,h20,hdG,hgx,htG,g20,g56,htq,hti,htd,hself,hta,htf,cInode,r1,r2,r3,r5])))
  ·simp only [hxb1,hxz,List.map_cons,List.map_nil,ci] at cT
   have hxz16:¬ x.size=0:=by omega
   have hRf:R=recF G d b0 W:=by rw [hRe2,if_neg hxz16,hxb1];simp
   have hb056:b0 < 56:=by
    have h1:=(hlk.blks (hgx ▸ List.getElem_mem hdG)).2.2 (b0:Int) (by rw [hxb1];exact List.mem_cons_self ..) (by omega)
    omega
   have hCl:C.length=16:=by omega
   have hCe:C=(g.data.getD b0 []).take 16:=by
    rw [hC,contentN,hxb1,hxz]
    simp [textB,blkT]
    try omega
   obtain ⟨V,hV⟩:∃ V,V=C++W:=⟨_,rfl⟩
   have hVl:V.length=32:=by rw [hV,List.length_append,hCl,hW]
   have hnsV:nChunks V 32=1:=by unfold nChunks;rw [hVl]
   have hcV:cutN V 32 1 = [V]:=by simp [cutN,chunk,List.range_succ];exact List.take_of_length_le (by omega)
   have cCutV:=spec_CutAll V 32 (by decide) (by decide) (by omega)
   rw [hnsV,hcV] at cCutV
   simp only [List.map_cons,List.map_nil,cs] at cCutV
   have cPW:=spec_PadTo V 32 (by decide) (by omega)
   have hVp:padTo V 32=V:=by unfold padTo;rw [hVl];simp
   have r1:R.tick=f.tick:=by rw [hRf];exact hgt
   have r2:R.quotas=f.quotas:=by rw [hRf];exact hgq
   have r3:R.inodes.map cInode=(G.inodes.map cInode).set d [.int .i64 x.kind, .int .i64 x.mode, .int .i64 x.uid, .int .i64 x.gid, .int .i64 x.links, .int .i64 32, .int .i64 x.tick, .row 1 [[.int .i64 b0]], .row 3 (x.acl.map cAcl), .row 3 (x.dflt.map cAcl)]:=by
    rw [hRf,recF,hxd,←hx,List.map_set]
    simp only [cInode,hxb1,List.map_cons,List.map_nil,ci]
   have r4:R.data.map cs=(g.data.map cs).set b0 [.str (padTo V 32)]:=by
    rw [hRf,recF,List.map_set,hgd,hVp,hV,hCe]
    rfl
   have hVs:=hV.symm
   by_cases hjl:j < L.length
   ·have hq:¬ (nextB g n.uid).2=0:=fun h=>hgo ⟨hjl,h⟩
    (try simp -implicitDefEqProofs (maxSteps:=2000000) (disch:=first|exact dd|fail)[Try.f111,hjl,hq,hxb1,hxz,hb056,hCl,hVs,hVl,hd,hi,hwi,hW,hle1,hle2,hle3,hgi2,h20,hdG,hgx,htG,g20,g56,htq,hti,htd,htB,hBl,cInode]);(repeat'((with_reducible first|(refine Br.out ?_ ?_<;>intro h<;>(try(have h0:=h;simp only[bH]at h)))|refine AC_snd (cN) ?_|refine AC_snd (cC _) ?_|refine AC_snd (cT _ _ _ _ _ _) ?_|refine AC_snd (hp1) ?_|refine AC_snd (hp2) ?_|refine AC_snd (hp3) ?_|refine AC_snd (cB32) ?_|refine AC_snd (cCutV) ?_|fail)<;>(try simp -implicitDefEqProofs (maxSteps:=2000000) (disch:=first|exact dd|fail)[Try.f111,hjl,hq,hxb1,hxz,hb056,hCl,hVs,hVl,hd,hi,hwi,hW,hle1,hle2,hle3,hgi2,h20,hdG,hgx,htG,g20,g56,htq,hti,htd,htB,hBl,cInode])))
    refine AL_up (fun (t:Nat)=>1 - t) (fun (t:Nat) => [(140, .int .i64 t)]) (fun (t:Nat) => [(8, .row 1 ((if t=0 then g.data else g.data.set b0 (padTo V 32)).map cs) [])]) (fun t=>t≤1) 0 (by simp) (by omega) ?_
    intro t n8 ht jh
    rcases Nat.eq_zero_or_pos t with ht0 | ht0
    ·subst ht0
     have hjj:=jh 1 (by omega) (by omega)
     simp only [Nat.one_ne_zero,if_false,List.map_set,cs] at hjj
     (try simp -implicitDefEqProofs (maxSteps:=2000000) (disch:=first|exact dd|fail)[Try.f111,hxb1,hb056,hVl,q4,hd,hi,hW,h20,hdG,hgx,htG,g20,g56,htq,hti,htd,hself,hta,htf,cInode]);(repeat'((with_reducible first|(refine Br.out ?_ ?_<;>intro h<;>(try(have h0:=h;simp only[bH]at h)))|refine AC_snd (cPW) ?_|fail)<;>(try simp -implicitDefEqProofs (maxSteps:=2000000) (disch:=first|exact dd|fail)[Try.f111,hxb1,hb056,hVl,q4,hd,hi,hW,h20,hdG,hgx,htG,g20,g56,htq,hti,htd,hself,hta,htf,cInode])))
     all_goals first | exact hjj
    ·have ht1:t=1:=by omega
     subst ht1
     simp only [Nat.one_ne_zero,if_false,List.map_set,cs]
     (try simp -implicitDefEqProofs (maxSteps:=2000000) (disch:=first|exact dd|fail)[Try.f111,hxb1,hb056,hVl,q4,hd,hi,hW,h20,hdG,hgx,htG,g20,g56,htq,hti,htd,hself,hta,htf,cInode,r1,r2,r3,r4]);(repeat'((with_reducible first|(refine Br.out ?_ ?_<;>intro h<;>(try(have h0:=h;simp only[bH]at h)))|fail)<;>(try simp -implicitDefEqProofs (maxSteps:=2000000) (disch:=first|exact dd|fail)[Try.f111,hxb1,hb056,hVl,q4,hd,hi,hW,h20,hdG,hgx,htG,g20,g56,htq,hti,htd,hself,hta,htf,cInode,r1,r2,r3,r4])))
   ·have hq:True:=trivial
    (try simp -implicitDefEqProofs (maxSteps:=2000000) (disch:=first|exact dd|fail)[Try.f111,hjl,hq,hxb1,hxz,hb056,hCl,hVs,hVl,hd,hi,hwi,hW,hle1,hle2,hle3,hgi2,h20,hdG,hgx,htG,g20,g56,htq,hti,htd,htB,hBl,cInode]);(repeat'((with_reducible first|(refine Br.out ?_ ?_<;>intro h<;>(try(have h0:=h;simp only[bH]at h)))|refine AC_snd (cN) ?_|refine AC_snd (cC _) ?_|refine AC_snd (cT _ _ _ _ _ _) ?_|refine AC_snd (hp1) ?_|refine AC_snd (hp2) ?_|refine AC_snd (hp3) ?_|refine AC_snd (cB32) ?_|refine AC_snd (cCutV) ?_|fail)<;>(try simp -implicitDefEqProofs (maxSteps:=2000000) (disch:=first|exact dd|fail)[Try.f111,hjl,hq,hxb1,hxz,hb056,hCl,hVs,hVl,hd,hi,hwi,hW,hle1,hle2,hle3,hgi2,h20,hdG,hgx,htG,g20,g56,htq,hti,htd,htB,hBl,cInode])))
    refine AL_up (fun (t:Nat)=>1 - t) (fun (t:Nat) => [(140, .int .i64 t)]) (fun (t:Nat) => [(8, .row 1 ((if t=0 then g.data else g.data.set b0 (padTo V 32)).map cs) [])]) (fun t=>t≤1) 0 (by simp) (by omega) ?_
    intro t n8 ht jh
    rcases Nat.eq_zero_or_pos t with ht0 | ht0
    ·subst ht0
     have hjj:=jh 1 (by omega) (by omega)
     simp only [Nat.one_ne_zero,if_false,List.map_set,cs] at hjj
     (try simp -implicitDefEqProofs (maxSteps:=2000000) (disch:=first|exact dd|fail)[Try.f111,hxb1,hb056,hVl,q4,hd,hi,hW,h20,hdG,hgx,htG,g20,g56,htq,hti,htd,hself,hta,htf,cInode]);(repeat'((with_reducible first|(refine Br.out ?_ ?_<;>intro h<;>(try(have h0:=h;simp only[bH]at h)))|refine AC_snd (cPW) ?_|fail)<;>(try simp -implicitDefEqProofs (maxSteps:=2000000) (disch:=first|exact dd|fail)[Try.f111,hxb1,hb056,hVl,q4,hd,hi,hW,h20,hdG,hgx,htG,g20,g56,htq,hti,htd,hself,hta,htf,cInode])))
     all_goals first | exact hjj
    ·have ht1:t=1:=by omega
     subst ht1
     simp only [Nat.one_ne_zero,if_false,List.map_set,cs]
     (try simp -implicitDefEqProofs (maxSteps:=2000000) (disch:=first|exact dd|fail)[Try.f111,hxb1,hb056,hVl,q4,hd,hi,hW,h20,hdG,hgx,htG,g20,g56,htq,hti,htd,hself,hta,htf,cInode,r1,r2,r3,r4]);(repeat'((with_reducible first|(refine Br.out ?_ ?_<;>intro h<;>(try(have h0:=h;simp only[bH]at h)))|fail)<;>(try simp -implicitDefEqProofs (maxSteps:=2000000) (disch:=first|exact dd|fail)[Try.f111,hxb1,hb056,hVl,q4,hd,hi,hW,h20,hdG,hgx,htG,g20,g56,htq,hti,htd,hself,hta,htf,cInode,r1,r2,r3,r4])))
 ·have hj1:j=0:=by omega
  subst hj1
  have hB0:B = []:=List.length_eq_zero_iff.1 hBl
  have hZ0:Z=0:=hI.zero rfl
  subst hB0 hZ0
  simp only [List.map_nil] at cC hgi2
  simp only [if_true]
  have htB:True:=trivial
  rcases hxb with ⟨rfl,hxb0,hxz⟩ | ⟨rfl,b0,hxb1,hxz⟩
  ·have hC0:C = []:=List.length_eq_zero_iff.1 (by omega)
   subst hC0
   simp only [hxb0,hxz,List.map_nil] at cT
   by_cases hnb:(nextB G x.uid).2=0
   ·obtain ⟨b,hbb,hb56,-⟩:=nextB_ok hxuid hnb
    rw [hbb,hnb] at cN2
    have hRf:R=blkF G d x W b:=by rw [hRe2,if_pos hxz,if_pos hnb,hbb]
    have r1:R.tick=f.tick:=by rw [hRf];exact hgt
    have r2:R.quotas=f.quotas:=by rw [hRf];exact hgq
    have r3:R.inodes.map cInode=(G.inodes.map cInode).set d [.int .i64 x.kind, .int .i64 x.mode, .int .i64 x.uid, .int .i64 x.gid, .int .i64 x.links, .int .i64 16, .int .i64 x.tick, .row 1 [[.int .i64 b]], .row 3 (x.acl.map cAcl), .row 3 (x.dflt.map cAcl)]:=by
     rw [hRf,blkF,List.map_set]
     simp only [blkN,cInode,hxb0,hxz,hW,List.nil_append,List.map_cons,List.map_nil,ci]
     rfl
    have r4:R.data.map cs=(g.data.map cs).set b [.str (padTo W 32)]:=by rw [hRf,blkF,List.map_set,hgd,Int.toNat_natCast];rfl
    by_cases hjl:0 < L.length
    ·have hq:¬ (nextB g n.uid).2=0:=fun h=>hgo ⟨hjl,h⟩
     (try simp -implicitDefEqProofs (maxSteps:=2000000) (disch:=first|exact dd|fail)[Try.f111,hjl,hq,hxb0,hxz,hb56,hd,hi,hwi,hW,hle1,hle2,hle3,hgi2,h20,hdG,hgx,htG,g20,g56,htq,hti,htd,htB,hBl,cInode]);(repeat'((with_reducible first|(refine Br.out ?_ ?_<;>intro h<;>(try(have h0:=h;simp only[bH]at h)))|refine AC_snd (cN) ?_|refine AC_snd (cC _) ?_|refine AC_snd (cT _ _ _ _ _ _) ?_|refine AC_snd (hp1) ?_|refine AC_snd (hp2) ?_|refine AC_snd (hp3) ?_|refine AC_snd (cB16) ?_|refine AC_snd (cN2 _ _ _) ?_|refine AC_snd (cCut) ?_|fail)<;>(try simp -implicitDefEqProofs (maxSteps:=2000000) (disch:=first|exact dd|fail)[Try.f111,hjl,hq,hxb0,hxz,hb56,hd,hi,hwi,hW,hle1,hle2,hle3,hgi2,h20,hdG,hgx,htG,g20,g56,htq,hti,htd,htB,hBl,cInode])))
     refine AL_up (fun (t:Nat)=>1 - t) (fun (t:Nat) => [(140, .int .i64 t)]) (fun (t:Nat) => [(8, .row 1 ((if t=0 then g.data else g.data.set b (padTo W 32)).map cs) [])]) (fun t=>t≤1) 0 (by simp) (by omega) ?_
     intro t n8 ht jh
     rcases Nat.eq_zero_or_pos t with ht0 | ht0
     ·subst ht0
      have hjj:=jh 1 (by omega) (by omega)
      simp only [Nat.one_ne_zero,if_false,List.map_set,cs] at hjj
      (try simp -implicitDefEqProofs (maxSteps:=2000000) (disch:=first|exact dd|fail)[Try.f111,hb56,q4,hd,hi,hW,h20,hdG,hgx,htG,g20,g56,htq,hti,htd,hself,hta,htf,cInode]);(repeat'((with_reducible first|(refine Br.out ?_ ?_<;>intro h<;>(try(have h0:=h;simp only[bH]at h)))|refine AC_snd (cPW) ?_|fail)<;>(try simp -implicitDefEqProofs (maxSteps:=2000000) (disch:=first|exact dd|fail)[Try.f111,hb56,q4,hd,hi,hW,h20,hdG,hgx,htG,g20,g56,htq,hti,htd,hself,hta,htf,cInode])))
      all_goals first | exact hjj
     ·have ht1:t=1:=by omega
      subst ht1
      simp only [Nat.one_ne_zero,if_false,List.map_set,cs]
      (try simp -implicitDefEqProofs (maxSteps:=2000000) (disch:=first|exact dd|fail)[Try.f111,hb56,q4,hd,hi,hW,h20,hdG,hgx,htG,g20,g56,htq,hti,htd,hself,hta,htf,cInode,r1,r2,r3,r4]);(repeat'((with_reducible first|(refine Br.out ?_ ?_<;>intro h<;>(try(have h0:=h;simp only[bH]at h)))|fail)<;>(try simp -implicitDefEqProofs (maxSteps:=2000000) (disch:=first|exact dd|fail)[Try.f111,hb56,q4,hd,hi,hW,h20,hdG,hgx,htG,g20,g56,htq,hti,htd,hself,hta,htf,cInode,r1,r2,r3,r4])))
    ·have hq:True:=trivial
     (try simp -implicitDefEqProofs (maxSteps:=2000000) (disch:=first|exact dd|fail)[Try.f111,hjl,hq,hxb0,hxz,hb56,hd,hi,hwi,hW,hle1,hle2,hle3,hgi2,h20,hdG,hgx,htG,g20,g56,htq,hti,htd,htB,hBl,cInode]);(repeat'((with_reducible first|(refine Br.out ?_ ?_<;>intro h<;>(try(have h0:=h;simp only[bH]at h)))|refine AC_snd (cN) ?_|refine AC_snd (cC _) ?_|refine AC_snd (cT _ _ _ _ _ _) ?_|refine AC_snd (hp1) ?_|refine AC_snd (hp2) ?_|refine AC_snd (hp3) ?_|refine AC_snd (cB16) ?_|refine AC_snd (cN2 _ _ _) ?_|refine AC_snd (cCut) ?_|fail)<;>(try simp -implicitDefEqProofs (maxSteps:=2000000) (disch:=first|exact dd|fail)[Try.f111,hjl,hq,hxb0,hxz,hb56,hd,hi,hwi,hW,hle1,hle2,hle3,hgi2,h20,hdG,hgx,htG,g20,g56,htq,hti,htd,htB,hBl,cInode])))
     refine AL_up (fun (t:Nat)=>1 - t) (fun (t:Nat) => [(140, .int .i64 t)]) (fun (t:Nat) => [(8, .row 1 ((if t=0 then g.data else g.data.set b (padTo W 32)).map cs) [])]) (fun t=>t≤1) 0 (by simp) (by omega) ?_
     intro t n8 ht jh
     rcases Nat.eq_zero_or_pos t with ht0 | ht0
     ·subst ht0
      have hjj:=jh 1 (by omega) (by omega)
      simp only [Nat.one_ne_zero,if_false,List.map_set,cs] at hjj
      (try simp -implicitDefEqProofs (maxSteps:=2000000) (disch:=first|exact dd|fail)[Try.f111,hb56,q4,hd,hi,hW,h20,hdG,hgx,htG,g20,g56,htq,hti,htd,hself,hta,htf,cInode]);(repeat'((with_reducible first|(refine Br.out ?_ ?_<;>intro h<;>(try(have h0:=h;simp only[bH]at h)))|refine AC_snd (cPW) ?_|fail)<;>(try simp -implicitDefEqProofs (maxSteps:=2000000) (disch:=first|exact dd|fail)[Try.f111,hb56,q4,hd,hi,hW,h20,hdG,hgx,htG,g20,g56,htq,hti,htd,hself,hta,htf,cInode])))
      all_goals first | exact hjj
     ·have ht1:t=1:=by omega
      subst ht1
      simp only [Nat.one_ne_zero,if_false,List.map_set,cs]
      (try simp -implicitDefEqProofs (maxSteps:=2000000) (disch:=first|exact dd|fail)[Try.f111,hb56,q4,hd,hi,hW,h20,hdG,hgx,htG,g20,g56,htq,hti,htd,hself,hta,htf,cInode,r1,r2,r3,r4]);(repeat'((with_reducible first|(refine Br.out ?_ ?_<;>intro h<;>(try(have h0:=h;simp only[bH]at h)))|fail)<;>(try simp -implicitDefEqProofs (maxSteps:=2000000) (disch:=first|exact dd|fail)[Try.f111,hb56,q4,hd,hi,hW,h20,hdG,hgx,htG,g20,g56,htq,hti,htd,hself,hta,htf,cInode,r1,r2,r3,r4])))
   ·have hRf:R=freeF G i:=by rw [hRe2,if_pos hxz,if_neg hnb]
    have hne0:¬ (nextB G x.uid).2=0:=hnb
    have hBi:(inodeAt G i).blocks = []:=by
     rw [hGe]
     have h1:=inodeAt_set (f:=g) (n:=⟨n.kind,n.mode,n.uid,n.gid,1,0,n.tick,[],n.acl,n.dflt⟩) (D:=g.data) (k:=i) (by rw [g20];exact hi) (i:Int)
     rw [if_pos (by simp)] at h1
     rw [hI.tick,hI.quotas] at h1
     rw [h1]
    have r1:R.tick=f.tick:=by rw [hRf];exact hgt
    have r2:R.quotas=f.quotas:=by rw [hRf];exact hgq
    have r3:R.inodes.map cInode=(G.inodes.map cInode).set i [.int .i64 0, .int .i64 0, .int .i64 0, .int .i64 0, .int .i64 0, .int .i64 0, .int .i64 0, .row 1 [], .row 3 [], .row 3 []]:=by
     rw [hRf,freeF,List.map_set,Int.toNat_natCast]
     rfl
    have r4:R.data.map cs=g.data.map cs:=by
     rw [hRf,freeF,hBi,hgd]
     rfl
    by_cases hjl:0 < L.length
    ·have hq:¬ (nextB g n.uid).2=0:=fun h=>hgo ⟨hjl,h⟩
     (try simp -implicitDefEqProofs (maxSteps:=2000000) (disch:=first|exact dd|fail)[Try.f111,hjl,hq,hne0,hxb0,hxz,hd,hi,hwi,hW,hle1,hle2,hle3,hgi2,h20,hdG,hgx,htG,g20,g56,htq,hti,htd,htB,hBl,cInode]);(repeat'((with_reducible first|(refine Br.out ?_ ?_<;>intro h<;>(try(have h0:=h;simp only[bH]at h)))|refine AC_snd (cN) ?_|refine AC_snd (cC _) ?_|refine AC_snd (cT _ _ _ _ _ _) ?_|refine AC_snd (hp1) ?_|refine AC_snd (hp2) ?_|refine AC_snd (hp3) ?_|refine AC_snd (cB16) ?_|refine AC_snd (cN2 _ _ _) ?_|fail)<;>(try simp -implicitDefEqProofs (maxSteps:=2000000) (disch:=first|exact dd|fail)[Try.f111,hjl,hq,hne0,hxb0,hxz,hd,hi,hwi,hW,hle1,hle2,hle3,hgi2,h20,hdG,hgx,htG,g20,g56,htq,hti,htd,htB,hBl,cInode])))
     refine AL_up (fun (_:Nat)=>0) (fun (_:Nat) => []) (fun (_:Nat) => []) (fun _=>True) 0 rfl trivial ?_
     intro t n8 ht jh
     (try simp -implicitDefEqProofs (maxSteps:=2000000) (disch:=first|exact dd|fail)[Try.f111,q4,hd,hi,hW,h20,hdG,hgx,htG,g20,g56,htq,hti,htd,hself,hta,htf,cInode,r1,r2,r3,r4]);(repeat'((with_reducible first|(refine Br.out ?_ ?_<;>intro h<;>(try(have h0:=h;simp only[bH]at h)))|fail)<;>(try simp -implicitDefEqProofs (maxSteps:=2000000) (disch:=first|exact dd|fail)[Try.f111,q4,hd,hi,hW,h20,hdG,hgx,htG,g20,g56,htq,hti,htd,hself,hta,htf,cInode,r1,r2,r3,r4])))
    ·have hq:True:=trivial
     (try simp -implicitDefEqProofs (maxSteps:=2000000) (disch:=first|exact dd|fail)[Try.f111,hjl,hq,hne0,hxb0,hxz,hd,hi,hwi,hW,hle1,hle2,hle3,hgi2,h20,hdG,hgx,htG,g20,g56,htq,hti,htd,htB,hBl,cInode]);(repeat'((with_reducible first|(refine Br.out ?_ ?_<;>intro h<;>(try(have h0:=h;simp only[bH]at h)))|refine AC_snd (cN) ?_|refine AC_snd (cC _) ?_|refine AC_snd (cT _ _ _ _ _ _) ?_|refine AC_snd (hp1) ?_|refine AC_snd (hp2) ?_|refine AC_snd (hp3) ?_|refine AC_snd (cB16) ?_|refine AC_snd (cN2 _ _ _) ?_|fail)<;>(try simp -implicitDefEqProofs (maxSteps:=2000000) (disch:=first|exact dd|fail)[Try.f111,hjl,hq,hne0,hxb0,hxz,hd,hi,hwi,hW,hle1,hle2,hle3,hgi2,h20,hdG,hgx,htG,g20,g56,htq,hti,htd,htB,hBl,cInode])))
     refine AL_up (fun (_:Nat)=>0) (fun (_:Nat) => []) (fun (_:Nat) => []) (fun _=>True) 0 rfl trivial ?_
     intro t n8 ht jh
     (try simp -implicitDefEqProofs (maxSteps:=2000000) (disch:=first|exact dd|fail)[Try.f111,q4,hd,hi,hW,h20,hdG,hgx,htG,g20,g56,htq,hti,htd,hself,hta,htf,cInode,r1,r2,r3,r4]);(repeat'((with_reducible first|(refine Br.out ?_ ?_<;>intro h<;>(try(have h0:=h;simp only[bH]at h)))|fail)<;>(try simp -implicitDefEqProofs (maxSteps:=2000000) (disch:=first|exact dd|fail)[Try.f111,q4,hd,hi,hW,h20,hdG,hgx,htG,g20,g56,htq,hti,htd,hself,hta,htf,cInode,r1,r2,r3,r4])))
  ·simp only [hxb1,hxz,List.map_cons,List.map_nil,ci] at cT
   have hxz16:¬ x.size=0:=by omega
   have hRf:R=recF G d b0 W:=by rw [hRe2,if_neg hxz16,hxb1];simp
   have hb056:b0 < 56:=by
    have h1:=(hlk.blks (hgx ▸ List.getElem_mem hdG)).2.2 (b0:Int) (by rw [hxb1];exact List.mem_cons_self ..) (by omega)
    omega
   have hCl:C.length=16:=by omega
   have hCe:C=(g.data.getD b0 []).take 16:=by
    rw [hC,contentN,hxb1,hxz]
    simp [textB,blkT]
    try omega
   obtain ⟨V,hV⟩:∃ V,V=C++W:=⟨_,rfl⟩
   have hVl:V.length=32:=by rw [hV,List.length_append,hCl,hW]
   have hnsV:nChunks V 32=1:=by unfold nChunks;rw [hVl]
   have hcV:cutN V 32 1 = [V]:=by simp [cutN,chunk,List.range_succ];exact List.take_of_length_le (by omega)
   have cCutV:=spec_CutAll V 32 (by decide) (by decide) (by omega)
   rw [hnsV,hcV] at cCutV
   simp only [List.map_cons,List.map_nil,cs] at cCutV
   have cPW:=spec_PadTo V 32 (by decide) (by omega)
   have hVp:padTo V 32=V:=by unfold padTo;rw [hVl];simp
   have r1:R.tick=f.tick:=by rw [hRf];exact hgt
   have r2:R.quotas=f.quotas:=by rw [hRf];exact hgq
   have r3:R.inodes.map cInode=(G.inodes.map cInode).set d [.int .i64 x.kind, .int .i64 x.mode, .int .i64 x.uid, .int .i64 x.gid, .int .i64 x.links, .int .i64 32, .int .i64 x.tick, .row 1 [[.int .i64 b0]], .row 3 (x.acl.map cAcl), .row 3 (x.dflt.map cAcl)]:=by
    rw [hRf,recF,hxd,←hx,List.map_set]
    simp only [cInode,hxb1,List.map_cons,List.map_nil,ci]
   have r4:R.data.map cs=(g.data.map cs).set b0 [.str (padTo V 32)]:=by
    rw [hRf,recF,List.map_set,hgd,hVp,hV,hCe]
    rfl
   have hVs:=hV.symm
   by_cases hjl:0 < L.length
   ·have hq:¬ (nextB g n.uid).2=0:=fun h=>hgo ⟨hjl,h⟩
    (try simp -implicitDefEqProofs (maxSteps:=2000000) (disch:=first|exact dd|fail)[Try.f111,hjl,hq,hxb1,hxz,hb056,hCl,hVs,hVl,hd,hi,hwi,hW,hle1,hle2,hle3,hgi2,h20,hdG,hgx,htG,g20,g56,htq,hti,htd,htB,hBl,cInode]);(repeat'((with_reducible first|(refine Br.out ?_ ?_<;>intro h<;>(try(have h0:=h;simp only[bH]at h)))|refine AC_snd (cN) ?_|refine AC_snd (cC _) ?_|refine AC_snd (cT _ _ _ _ _ _) ?_|refine AC_snd (hp1) ?_|refine AC_snd (hp2) ?_|refine AC_snd (hp3) ?_|refine AC_snd (cB32) ?_|refine AC_snd (cCutV) ?_|fail)<;>(try simp -implicitDefEqProofs (maxSteps:=2000000) (disch:=first|exact dd|fail)[Try.f111,hjl,hq,hxb1,hxz,hb056,hCl,hVs,hVl,hd,hi,hwi,hW,hle1,hle2,hle3,hgi2,h20,hdG,hgx,htG,g20,g56,htq,hti,htd,htB,hBl,cInode])))
    refine AL_up (fun (t:Nat)=>1 - t) (fun (t:Nat) => [(140, .int .i64 t)]) (fun (t:Nat) => [(8, .row 1 ((if t=0 then g.data else g.data.set b0 (padTo V 32)).map cs) [])]) (fun t=>t≤1) 0 (by simp) (by omega) ?_
    intro t n8 ht jh
    rcases Nat.eq_zero_or_pos t with ht0 | ht0
    ·subst ht0
     have hjj:=jh 1 (by omega) (by omega)
     simp only [Nat.one_ne_zero,if_false,List.map_set,cs] at hjj
     (try simp -implicitDefEqProofs (maxSteps:=2000000) (disch:=first|exact dd|fail)[Try.f111,hxb1,hb056,hVl,q4,hd,hi,hW,h20,hdG,hgx,htG,g20,g56,htq,hti,htd,hself,hta,htf,cInode]);(repeat'((with_reducible first|(refine Br.out ?_ ?_<;>intro h<;>(try(have h0:=h;simp only[bH]at h)))|refine AC_snd (cPW) ?_|fail)<;>(try simp -implicitDefEqProofs (maxSteps:=2000000) (disch:=first|exact dd|fail)[Try.f111,hxb1,hb056,hVl,q4,hd,hi,hW,h20,hdG,hgx,htG,g20,g56,htq,hti,htd,hself,hta,htf,cInode])))
     all_goals first | exact hjj
    ·have ht1:t=1:=by omega
     subst ht1
     simp only [Nat.one_ne_zero,if_false,List.map_set,cs]
     (try simp -implicitDefEqProofs (maxSteps:=2000000) (disch:=first|exact dd|fail)[Try.f111,hxb1,hb056,hVl,q4,hd,hi,hW,h20,hdG,hgx,htG,g20,g56,htq,hti,htd,hself,hta,htf,cInode,r1,r2,r3,r4]);(repeat'((with_reducible first|(refine Br.out ?_ ?_<;>intro h<;>(try(have h0:=h;simp only[bH]at h)))|fail)<;>(try simp -implicitDefEqProofs (maxSteps:=2000000) (disch:=first|exact dd|fail)[Try.f111,hxb1,hb056,hVl,q4,hd,hi,hW,h20,hdG,hgx,htG,g20,g56,htq,hti,htd,hself,hta,htf,cInode,r1,r2,r3,r4])))
   ·have hq:True:=trivial
    (try simp -implicitDefEqProofs (maxSteps:=2000000) (disch:=first|exact dd|fail)[Try.f111,hjl,hq,hxb1,hxz,hb056,hCl,hVs,hVl,hd,hi,hwi,hW,hle1,hle2,hle3,hgi2,h20,hdG,hgx,htG,g20,g56,htq,hti,htd,htB,hBl,cInode]);(repeat'((with_reducible first|(refine Br.out ?_ ?_<;>intro h<;>(try(have h0:=h;simp only[bH]at h)))|refine AC_snd (cN) ?_|refine AC_snd (cC _) ?_|refine AC_snd (cT _ _ _ _ _ _) ?_|refine AC_snd (hp1) ?_|refine AC_snd (hp2) ?_|refine AC_snd (hp3) ?_|refine AC_snd (cB32) ?_|refine AC_snd (cCutV) ?_|fail)<;>(try simp -implicitDefEqProofs (maxSteps:=2000000) (disch:=first|exact dd|fail)[Try.f111,hjl,hq,hxb1,hxz,hb056,hCl,hVs,hVl,hd,hi,hwi,hW,hle1,hle2,hle3,hgi2,h20,hdG,hgx,htG,g20,g56,htq,hti,htd,htB,hBl,cInode])))
    refine AL_up (fun (t:Nat)=>1 - t) (fun (t:Nat) => [(140, .int .i64 t)]) (fun (t:Nat) => [(8, .row 1 ((if t=0 then g.data else g.data.set b0 (padTo V 32)).map cs) [])]) (fun t=>t≤1) 0 (by simp) (by omega) ?_
    intro t n8 ht jh
    rcases Nat.eq_zero_or_pos t with ht0 | ht0
    ·subst ht0
     have hjj:=jh 1 (by omega) (by omega)
     simp only [Nat.one_ne_zero,if_false,List.map_set,cs] at hjj
     (try simp -implicitDefEqProofs (maxSteps:=2000000) (disch:=first|exact dd|fail)[Try.f111,hxb1,hb056,hVl,q4,hd,hi,hW,h20,hdG,hgx,htG,g20,g56,htq,hti,htd,hself,hta,htf,cInode]);(repeat'((with_reducible first|(refine Br.out ?_ ?_<;>intro h<;>(try(have h0:=h;simp only[bH]at h)))|refine AC_snd (cPW) ?_|fail)<;>(try simp -implicitDefEqProofs (maxSteps:=2000000) (disch:=first|exact dd|fail)[Try.f111,hxb1,hb056,hVl,q4,hd,hi,hW,h20,hdG,hgx,htG,g20,g56,htq,hti,htd,hself,hta,htf,cInode])))
     all_goals first | exact hjj
    ·have ht1:t=1:=by omega
     subst ht1
     simp only [Nat.one_ne_zero,if_false,List.map_set,cs]
     (try simp -implicitDefEqProofs (maxSteps:=2000000) (disch:=first|exact dd|fail)[Try.f111,hxb1,hb056,hVl,q4,hd,hi,hW,h20,hdG,hgx,htG,g20,g56,htq,hti,htd,hself,hta,htf,cInode,r1,r2,r3,r4]);(repeat'((with_reducible first|(refine Br.out ?_ ?_<;>intro h<;>(try(have h0:=h;simp only[bH]at h)))|fail)<;>(try simp -implicitDefEqProofs (maxSteps:=2000000) (disch:=first|exact dd|fail)[Try.f111,hxb1,hb056,hVl,q4,hd,hi,hW,h20,hdG,hgx,htG,g20,g56,htq,hti,htd,hself,hta,htf,cInode,r1,r2,r3,r4])))
end Go.Proofs.Ytfkkfhafijgdaaa
