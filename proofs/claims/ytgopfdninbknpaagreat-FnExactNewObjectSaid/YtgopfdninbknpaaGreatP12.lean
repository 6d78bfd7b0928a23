import Derived.Test.YtgopfdninbknpaaGreatP08
import Derived.Test.YtgopfdninbknpaaGreatP06
import Derived.Test.YtgopfdninbknpaaGreatM11
namespace Go.Proofs.YtgopfdninbknpaaGreat
open Go.Fw
set_option linter.unusedVariables false
set_option linter.unusedSimpArgs false
theorem impl_has (n1 n2 n3:Option Bool) (f:DFS) (i:Int) (hn:f.inodes.length=20):Snd Tryz.prog 161 [pFS n1 n2 n3 f, .int .i64 i] (.bool (hasI f i)) [.unk, .unk]:=Runs.snd (M:=M) (c:=⟨2,[4],[],[]⟩) tok ks mixed Tryz.func161 (p := []) (by kernel_rfl) (by rfl) (by rfl) <| by
 by_cases hi:0≤i∧i < 20
 ·obtain ⟨k,rfl⟩:=Int.eq_ofNat_of_zero_le hi.1
  have hlt:k < f.inodes.length:=by omega
  have he:=inodeAt_nat hlt
  (try simp -implicitDefEqProofs (disch:=first|exact dd|fail)[Tryz.f161,hlt,cInode]);(repeat'((with_reducible first|(refine Br.out ?_ ?_<;>intro h<;>(try(have h0:=h;simp only[bH]at h)))|fail)<;>(try simp -implicitDefEqProofs (disch:=first|exact dd|fail)[Tryz.f161,hlt,cInode])))
  all_goals simp [hasI,he, *]
 ·(try simp -implicitDefEqProofs (disch:=first|exact dd|fail)[Tryz.f161]);(repeat'((with_reducible first|(refine Br.out ?_ ?_<;>intro h<;>(try(have h0:=h;simp only[bH]at h)))|fail)<;>(try simp -implicitDefEqProofs (disch:=first|exact dd|fail)[Tryz.f161])))
  all_goals first | omega | (simp [hasI];omega)
theorem impl_isDir (n1 n2 n3:Option Bool) (f:DFS) (i:Int) (hn:f.inodes.length=20):Snd Tryz.prog 162 [pFS n1 n2 n3 f, .int .i64 i] (.bool (isDirI f i)) [.unk, .unk]:=Runs.snd (M:=M) (c:=⟨2,[4],[],[]⟩) tok ks mixed Tryz.func162 (p := []) (by kernel_rfl) (by rfl) (by rfl) <| by
 by_cases hi:0≤i∧i < 20
 ·obtain ⟨k,rfl⟩:=Int.eq_ofNat_of_zero_le hi.1
  have hlt:k < f.inodes.length:=by omega
  have he:=inodeAt_nat hlt
  (try simp -implicitDefEqProofs (disch:=first|exact dd|fail)[Tryz.f162,hlt,cInode]);(repeat'((with_reducible first|(refine Br.out ?_ ?_<;>intro h<;>(try(have h0:=h;simp only[bH]at h)))|refine AC_snd (impl_has _ _ _ f _ hn) ?_|fail)<;>(try simp -implicitDefEqProofs (disch:=first|exact dd|fail)[Tryz.f162,hlt,cInode])))
  all_goals simp [isDirI,he, *]
 ·have hf:hasI f i=false:=by simp only [hasI,Bool.and_eq_false_iff,decide_eq_false_iff_not];omega
  (try simp -implicitDefEqProofs (disch:=first|exact dd|fail)[Tryz.f162,hf]);(repeat'((with_reducible first|(refine Br.out ?_ ?_<;>intro h<;>(try(have h0:=h;simp only[bH]at h)))|refine AC_snd (impl_has _ _ _ f _ hn) ?_|fail)<;>(try simp -implicitDefEqProofs (disch:=first|exact dd|fail)[Tryz.f162,hf])))
  all_goals simp [isDirI,hf]
theorem impl_may (n1 n2 n3 n4:Option Bool) (f:DFS) (c:DCred) (i w:Int) (hn:f.inodes.length=20) (hs:SmF f) (hc:c.groups.length≤1048576):Snd Tryz.prog 80 [pFS n1 n2 n3 f,fCred n4 c, .int .i64 i, .int .i64 w] (.bool (mayI f c i w)) [.unk, .unk, .unk, .unk]:=Runs.snd (M:=M) (c:=⟨4,[5,8,9,13],[],[]⟩) tok ks mixed Tryz.func80 (p := []) (by kernel_rfl) (by rfl) (by rfl) <| by
 by_cases hi:0≤i∧i < 20
 ·obtain ⟨k,rfl⟩:=Int.eq_ofNat_of_zero_le hi.1
  have hlt:k < f.inodes.length:=by omega
  have he:=inodeAt_nat hlt
  have ha:=(hs.inode _ (List.getElem_mem hlt)).acl
  (try simp -implicitDefEqProofs (disch:=first|exact dd|fail)[Tryz.f80,hlt,cInode]);(repeat'((with_reducible first|(refine Br.out ?_ ?_<;>intro h<;>(try(have h0:=h;simp only[bH]at h)))|refine AC_snd (impl_has _ _ _ f _ hn) ?_|refine AC_snd (impl_Allowed _ _ c _ _ _ f.inodes[k].acl _ hc ha) ?_|fail)<;>(try simp -implicitDefEqProofs (disch:=first|exact dd|fail)[Tryz.f80,hlt,cInode])))
  all_goals simp [mayI,he, *]
 ·have hf:hasI f i=false:=by simp only [hasI,Bool.and_eq_false_iff,decide_eq_false_iff_not];omega
  (try simp -implicitDefEqProofs (disch:=first|exact dd|fail)[Tryz.f80,hf]);(repeat'((with_reducible first|(refine Br.out ?_ ?_<;>intro h<;>(try(have h0:=h;simp only[bH]at h)))|refine AC_snd (impl_has _ _ _ f _ hn) ?_|fail)<;>(try simp -implicitDefEqProofs (disch:=first|exact dd|fail)[Tryz.f80,hf])))
  all_goals simp [mayI,hf]
theorem spec_l11May (n1 n2 n3 n4:Option Bool) (f:DFS) (c:DCred) (i w:Int) (hn:f.inodes.length=20) (hu:hasI f i=true) (hs:SmF f) (hc:c.groups.length≤1048576):Snd Tryz.prog 99 [fFS n1 n2 n3 f,fCred n4 c, .int .i64 i, .int .i64 w] (.bool (mayI f c i w)) [.unk, .unk, .unk, .unk]:=Runs.snd (M:=M) (c:=⟨4,[4,5,8,9],[],[]⟩) tok ks mixed Tryz.func99 (p := []) (by kernel_rfl) (by rfl) (by rfl) <| by
 have hi:=hasI_lt hu
 obtain ⟨k,rfl⟩:=Int.eq_ofNat_of_zero_le hi.1
 have hlt:k < f.inodes.length:=by omega
 have he:=inodeAt_nat hlt
 have ha:=(hs.inode _ (List.getElem_mem hlt)).acl
 (try simp -implicitDefEqProofs (disch:=first|exact dd|fail)[Tryz.f99,hlt,cInode]);(repeat'((with_reducible first|(refine Br.out ?_ ?_<;>intro h<;>(try(have h0:=h;simp only[bH]at h)))|refine AC_snd (spec_Allowed _ _ c _ _ _ f.inodes[k].acl _ hc ha) ?_|fail)<;>(try simp -implicitDefEqProofs (disch:=first|exact dd|fail)[Tryz.f99,hlt,cInode])))
 all_goals (rw [mayI,he,hu,Bool.true_and])
def newOwner (f:DFS) (c:DCred) (d:Int):Int × Int:=if iAnd (inodeAt f d).mode 1024=0 then (c.uid,c.gid) else (c.uid,(inodeAt f d).gid)
theorem impl_owner (n1 n2 n3 n4:Option Bool) (f:DFS) (c:DCred) (i:Int) (hn:f.inodes.length=20) (hi:0≤i∧i < 20):Snd Tryz.prog 84 [pFS n1 n2 n3 f,fCred n4 c, .int .i64 i] (.tup [.int .i64 (newOwner f c i).1, .int .i64 (newOwner f c i).2]) [.unk, .unk, .unk]:=Runs.snd (M:=M) (c:=⟨3,[4,6,7,17],[],[]⟩) tok ks mixed Tryz.func84 (p := []) (by kernel_rfl) (by rfl) (by rfl) <| by
 obtain ⟨k,rfl⟩:=Int.eq_ofNat_of_zero_le hi.1
 have hlt:k < f.inodes.length:=by omega
 have he:=inodeAt_nat hlt
 (try simp -implicitDefEqProofs (disch:=first|exact dd|fail)[Tryz.f84,hlt,cInode]);(repeat'((with_reducible first|(refine Br.out ?_ ?_<;>intro h<;>(try(have h0:=h;simp only[bH]at h)))|fail)<;>(try simp -implicitDefEqProofs (disch:=first|exact dd|fail)[Tryz.f84,hlt,cInode])))
 all_goals simp [newOwner,he, *]
noncomputable def dirCode (f:DFS) (i:Int):Int:=if isFS f && hasI f i then if isDirI f i then 0 else 5 else 1
theorem spec_l12Gid (n1 n2 n3 n4:Option Bool) (f:DFS) (c:DCred) (i:Int) (hn:f.inodes.length=20) (hi:0≤i∧i < 20):Snd Tryz.prog 148 [fFS n1 n2 n3 f,fCred n4 c, .int .i64 i] (.int .i64 (newOwner f c i).2) [.unk, .unk, .unk]:=Runs.snd (M:=M) (c:=⟨3,[3,4,6,14],[],[]⟩) tok ks mixed Tryz.func148 (p := []) (by kernel_rfl) (by rfl) (by rfl) <| by
 obtain ⟨k,rfl⟩:=Int.eq_ofNat_of_zero_le hi.1
 have hlt:k < f.inodes.length:=by omega
 have he:=inodeAt_nat hlt
 (try simp -implicitDefEqProofs (disch:=first|exact dd|fail)[Tryz.f148,hlt,cInode]);(repeat'((with_reducible first|(refine Br.out ?_ ?_<;>intro h<;>(try(have h0:=h;simp only[bH]at h)))|fail)<;>(try simp -implicitDefEqProofs (disch:=first|exact dd|fail)[Tryz.f148,hlt,cInode])))
 all_goals simp [newOwner,he, *]
theorem isDir_use {f:DFS} {i:Int} (h:isDirI f i=true):hasI f i=true:=(Bool.and_eq_true_iff.1 h).1
def orphP (n:DInode):Bool := !decide (n.kind=0) && decide (n.links=0)
def orphF (k:Int):List DInode→List Int
 | [] => []
 | n :: l=>if orphP n then k :: orphF (k + 1) l else orphF (k + 1) l
def orph (ns:List DInode):List Int:=orphF 0 ns
theorem b2l_zero:∀ c:Nat,bytesToList (List.replicate c [AV.int .u8 0])=some (List.replicate c 0)
 | 0=>rfl
 | c + 1=>by
  rw [List.replicate_succ,List.replicate_succ]
  unfold bytesToList
  rw [b2l_zero c]
  rfl
theorem impl_zeros (c:Nat) (hc:c≤1048576):Snd Tryz.prog 196 [.int .i64 c] (.str (List.replicate c 0)) [.unk]:=Runs.snd (M:=M) (c:=⟨1,[2],[],[]⟩) tok ks mixed Tryz.func196 (p := []) (by kernel_rfl) (by rfl) (by rfl) <| by
 have hb:=b2l_zero c
 (try simp -implicitDefEqProofs (disch:=first|exact dd|fail)[Tryz.f196,hb]);(repeat'((with_reducible first|(refine Br.out ?_ ?_<;>intro h<;>(try(have h0:=h;simp only[bH]at h)))|fail)<;>(try simp -implicitDefEqProofs (disch:=first|exact dd|fail)[Tryz.f196,hb])))
theorem impl_zeros32:Snd Tryz.prog 196 [.int .i64 32] (.str zero32) [.unk]:=impl_zeros 32 (by decide)
theorem spec_PadTo0:Snd Tryz.prog 191 [.str [], .int .i64 32] (.str zero32) [.unk, .unk]:=Runs.snd (M:=M) (c:=⟨2,[4,5,7,13],[],[]⟩) tok ks mixed Tryz.func191 (p := []) (by kernel_rfl) (by rfl) (by rfl) <| by
 (try simp -implicitDefEqProofs (disch:=first|exact dd|fail)[Tryz.f191]);(repeat'((with_reducible first|(refine Br.out ?_ ?_<;>intro h<;>(try(have h0:=h;simp only[bH]at h)))|fail)<;>(try simp -implicitDefEqProofs (disch:=first|exact dd|fail)[Tryz.f191])))
 refine AL_up (fun i=>33 - i) (fun i => [(5, .ref 640 none 1 0 i (some false))]) (fun i => [(640, .row 1 (List.replicate i [.int .u8 0]) [])]) (fun i=>i≤32) 0 rfl (by omega) ?_
 intro i n hi ih
 rcases Nat.lt_or_ge i 32 with hlt | hge
 ·have hj:=ih (i + 1) (by omega) (by omega)
  rw [List.replicate_succ'] at hj
  (try simp -implicitDefEqProofs (disch:=first|exact dd|fail)[Tryz.f191]);(repeat'((with_reducible first|(refine Br.out ?_ ?_<;>intro h<;>(try(have h0:=h;simp only[bH]at h)))|fail)<;>(try simp -implicitDefEqProofs (disch:=first|exact dd|fail)[Tryz.f191])))
  all_goals first | exact hj
 ·obtain rfl:i=32:=by omega
  have hb:=b2l_zero 32
  (try simp -implicitDefEqProofs (disch:=first|exact dd|fail)[Tryz.f191,hb]);(repeat'((with_reducible first|(refine Br.out ?_ ?_<;>intro h<;>(try(have h0:=h;simp only[bH]at h)))|fail)<;>(try simp -implicitDefEqProofs (disch:=first|exact dd|fail)[Tryz.f191,hb])))
  all_goals first | rfl
set_option maxHeartbeats 4000000 in
set_option maxRecDepth 8000 in
theorem impl_content (n1 n2 n3:Option Bool) (f:DFS) (i:Int) (hf:IsFS f) (hi:0≤i∧i < 20):Snd Tryz.prog 229 [pFS n1 n2 n3 f, .int .i64 i] (.str (contentN f.data (inodeAt f i))) [.unk, .unk]:=Runs.snd (M:=M) (c:=⟨2,[4,5,6,8,17,18,19,20,24],[],[(1,[0,1,4,5,6,17,18,19,20,24])]⟩) tok ks mixed Tryz.func229 (p := []) (by kernel_rfl) (by rfl) (by rfl) <| by
 obtain ⟨k,rfl⟩:=Int.eq_ofNat_of_zero_le hi.1
 have hni:=hf.ni
 have hlt:k < f.inodes.length:=by omega
 have he:=inodeAt_nat hlt
 have hmem:=List.getElem_mem hlt
 have hbl:=hf.blks hmem
 have hsz:=contentN_size hf hmem
 have hlen:=textB_len hbl
 have hil:=((hf.inode _ hmem).len).1
 rw [he]
 generalize hx:f.inodes[k]=x at *
 (try simp -implicitDefEqProofs (disch:=first|exact dd|fail)[Tryz.f229,hlt,hx,cInode]);(repeat'((with_reducible first|(refine Br.out ?_ ?_<;>intro h<;>(try(have h0:=h;simp only[bH]at h)))|fail)<;>(try simp -implicitDefEqProofs (disch:=first|exact dd|fail)[Tryz.f229,hlt,hx,cInode])))
 refine AL_fors (σ:=Unit) 19 x.blocks.length (fun j _ => [(6, .str (textB f.data (x.blocks.take j)))]) (fun _ _ => []) (fun _ _=>True) () rfl trivial (fun j _ n hjt _ jh => ?_) (fun _ n _ => ?_)
 ·have hr:=textB_take (data:=f.data) hjt
  have hl2:=textB_len (data:=f.data) (bs:=x.blocks.take j) ⟨hbl.1,hbl.2.1,fun b hb=>hbl.2.2 b (List.mem_of_mem_take hb)⟩
  rw [List.length_take] at hl2
  have hj:=jh () trivial
  simp only [hr] at hj
  have hd1:=hbl.1
  by_cases hb:x.blocks[j] = -1
  ·simp only [blkT,hb,if_true] at hj
   have hz32:List.length zero32=32:=rfl
   have hcc:List.length (textB f.data (List.take j x.blocks)) + List.length zero32≤1073741824:=by omega
   have hzr:List.replicate 32 (0:UInt8)=zero32:=rfl
   (try simp -implicitDefEqProofs (disch:=first|exact dd|fail)[Tryz.f229,hlt,hjt,hx,hb,hzr,hcc,cInode]);(repeat'((with_reducible first|(refine Br.out ?_ ?_<;>intro h<;>(try(have h0:=h;simp only[bH]at h)))|refine AC_snd (impl_zeros32) ?_|fail)<;>(try simp -implicitDefEqProofs (disch:=first|exact dd|fail)[Tryz.f229,hlt,hjt,hx,hb,hzr,hcc,cInode])))
   all_goals first | exact hj
  ·have hbr:=hbl.2.2 _ (List.getElem_mem hjt) hb
   obtain ⟨m,hm⟩:=Int.eq_ofNat_of_zero_le hbr.1
   have hmd:m < f.data.length:=by omega
   simp only [blkT,hb,if_false] at hj
   rw [hm] at hj hb
   have hgd:f.data.getD m []=f.data[m]:=by simp [hmd]
   simp only [Int.toNat_natCast,hgd] at hj
   have hdl:=hbl.2.1 _ (List.getElem_mem hmd)
   have hcc:List.length (textB f.data (List.take j x.blocks)) + List.length f.data[m]≤1073741824:=by omega
   (try simp -implicitDefEqProofs (disch:=first|exact dd|fail)[Tryz.f229,hlt,hjt,hx,hm,hb,hmd,hcc,cInode]);(repeat'((with_reducible first|(refine Br.out ?_ ?_<;>intro h<;>(try(have h0:=h;simp only[bH]at h)))|fail)<;>(try simp -implicitDefEqProofs (disch:=first|exact dd|fail)[Tryz.f229,hlt,hjt,hx,hm,hb,hmd,hcc,cInode])))
   all_goals first | exact hj
 ·rw [List.take_length]
  (try simp -implicitDefEqProofs (disch:=first|exact dd|fail)[Tryz.f229]);(repeat'((with_reducible first|(refine Br.out ?_ ?_<;>intro h<;>(try(have h0:=h;simp only[bH]at h)))|fail)<;>(try simp -implicitDefEqProofs (disch:=first|exact dd|fail)[Tryz.f229])))
  all_goals first | rfl
set_option maxHeartbeats 4000000 in
set_option maxRecDepth 8000 in
theorem spec_l09Text (n1 n2 n3 n4 n5 n6:Option Bool) (f:DFS) (x:DInode) (hf:IsFS f) (hmem:x ∈ f.inodes):Snd Tryz.prog 240 [fFS n1 n2 n3 f,fInode n4 n5 n6 x] (.str (contentN f.data x)) [.unk, .unk]:=Runs.snd (M:=M) (c:=⟨2,[2,3,4,5,7,9,10,11,12,16,32],[],[(1,[0,1,2,3,4,5,9,10,11,12,16,32])]⟩) tok ks mixed Tryz.func240 (p := []) (by kernel_rfl) (by rfl) (by rfl) <| by
 have hbl:=hf.blks hmem
 have hsz:=contentN_size hf hmem
 have hlen:=textB_len hbl
 have hil:=((hf.inode _ hmem).len).1
 (try simp -implicitDefEqProofs (disch:=first|exact dd|fail)[Tryz.f240]);(repeat'((with_reducible first|(refine Br.out ?_ ?_<;>intro h<;>(try(have h0:=h;simp only[bH]at h)))|fail)<;>(try simp -implicitDefEqProofs (disch:=first|exact dd|fail)[Tryz.f240])))
 refine AL_fors (σ:=Unit) 11 x.blocks.length (fun j _ => [(5, .str (textB f.data (x.blocks.take j)))]) (fun _ _ => []) (fun _ _=>True) () rfl trivial (fun j _ n hjt _ jh => ?_) (fun _ n _ => ?_)
 ·have hr:=textB_take (data:=f.data) hjt
  have hl2:=textB_len (data:=f.data) (bs:=x.blocks.take j) ⟨hbl.1,hbl.2.1,fun b hb=>hbl.2.2 b (List.mem_of_mem_take hb)⟩
  rw [List.length_take] at hl2
  have hj:=jh () trivial
  simp only [hr] at hj
  have hd1:=hbl.1
  by_cases hb:x.blocks[j] = -1
  ·simp only [blkT,hb,if_true] at hj
   have hz32:List.length zero32=32:=rfl
   have hcc:List.length (textB f.data (List.take j x.blocks)) + List.length zero32≤1073741824:=by omega
   have hzr:List.replicate 32 (0:UInt8)=zero32:=rfl
   (try simp -implicitDefEqProofs (disch:=first|exact dd|fail)[Tryz.f240,hjt,hb,hcc,cInode]);(repeat'((with_reducible first|(refine Br.out ?_ ?_<;>intro h<;>(try(have h0:=h;simp only[bH]at h)))|refine AC_snd (spec_PadTo0) ?_|fail)<;>(try simp -implicitDefEqProofs (disch:=first|exact dd|fail)[Tryz.f240,hjt,hb,hcc,cInode])))
   all_goals first | exact hj
  ·have hbr:=hbl.2.2 _ (List.getElem_mem hjt) hb
   obtain ⟨m,hm⟩:=Int.eq_ofNat_of_zero_le hbr.1
   have hmd:m < f.data.length:=by omega
   simp only [blkT,hb,if_false] at hj
   rw [hm] at hj hb
   have hgd:f.data.getD m []=f.data[m]:=by simp [hmd]
   simp only [Int.toNat_natCast,hgd] at hj
   have hdl:=hbl.2.1 _ (List.getElem_mem hmd)
   have hcc:List.length (textB f.data (List.take j x.blocks)) + List.length f.data[m]≤1073741824:=by omega
   (try simp -implicitDefEqProofs (disch:=first|exact dd|fail)[Tryz.f240,hjt,hm,hb,hmd,hcc,cInode]);(repeat'((with_reducible first|(refine Br.out ?_ ?_<;>intro h<;>(try(have h0:=h;simp only[bH]at h)))|fail)<;>(try simp -implicitDefEqProofs (disch:=first|exact dd|fail)[Tryz.f240,hjt,hm,hb,hmd,hcc,cInode])))
   all_goals first | exact hj
 ·rw [List.take_length]
  (try simp -implicitDefEqProofs (disch:=first|exact dd|fail)[Tryz.f240]);(repeat'((with_reducible first|(refine Br.out ?_ ?_<;>intro h<;>(try(have h0:=h;simp only[bH]at h)))|fail)<;>(try simp -implicitDefEqProofs (disch:=first|exact dd|fail)[Tryz.f240])))
  ·rfl
  ·exact (List.take_of_length_le (by omega)).symm
end Go.Proofs.YtgopfdninbknpaaGreat
