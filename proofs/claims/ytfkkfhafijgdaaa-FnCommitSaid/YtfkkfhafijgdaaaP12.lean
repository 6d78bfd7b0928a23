import Derived.Test.YtfkkfhafijgdaaaP08
import Derived.Test.YtfkkfhafijgdaaaP06
import Derived.Test.YtfkkfhafijgdaaaM11
namespace Go.Proofs.Ytfkkfhafijgdaaa
open Go.Fw
set_option linter.unusedVariables false
set_option linter.unusedSimpArgs false
theorem impl_has (n1 n2 n3:Option Bool) (f:DFS) (i:Int) (hn:f.inodes.length=20):Snd Try.prog 51 [pFS n1 n2 n3 f, .int .i64 i] (.bool (hasI f i)) [.unk, .unk]:=Runs.snd (M:=M) (c:=⟨2,[4],[],[]⟩) tok ks mixed Try.func51 (p := []) (by kernel_rfl) (by rfl) (by rfl) <| by
 by_cases hi:0≤i∧i < 20
 ·obtain ⟨k,rfl⟩:=Int.eq_ofNat_of_zero_le hi.1
  have hlt:k < f.inodes.length:=by omega
  have he:=inodeAt_nat hlt
  (try simp -implicitDefEqProofs (disch:=first|exact dd|fail)[Try.f51,hlt,cInode]);(repeat'((with_reducible first|(refine Br.out ?_ ?_<;>intro h<;>(try(have h0:=h;simp only[bH]at h)))|fail)<;>(try simp -implicitDefEqProofs (disch:=first|exact dd|fail)[Try.f51,hlt,cInode])))
  all_goals simp [hasI,he, *]
 ·(try simp -implicitDefEqProofs (disch:=first|exact dd|fail)[Try.f51]);(repeat'((with_reducible first|(refine Br.out ?_ ?_<;>intro h<;>(try(have h0:=h;simp only[bH]at h)))|fail)<;>(try simp -implicitDefEqProofs (disch:=first|exact dd|fail)[Try.f51])))
  all_goals first | omega | (simp [hasI];omega)
theorem impl_isDir (n1 n2 n3:Option Bool) (f:DFS) (i:Int) (hn:f.inodes.length=20):Snd Try.prog 52 [pFS n1 n2 n3 f, .int .i64 i] (.bool (isDirI f i)) [.unk, .unk]:=Runs.snd (M:=M) (c:=⟨2,[4],[],[]⟩) tok ks mixed Try.func52 (p := []) (by kernel_rfl) (by rfl) (by rfl) <| by
 by_cases hi:0≤i∧i < 20
 ·obtain ⟨k,rfl⟩:=Int.eq_ofNat_of_zero_le hi.1
  have hlt:k < f.inodes.length:=by omega
  have he:=inodeAt_nat hlt
  (try simp -implicitDefEqProofs (disch:=first|exact dd|fail)[Try.f52,hlt,cInode]);(repeat'((with_reducible first|(refine Br.out ?_ ?_<;>intro h<;>(try(have h0:=h;simp only[bH]at h)))|refine AC_snd (impl_has _ _ _ f _ hn) ?_|fail)<;>(try simp -implicitDefEqProofs (disch:=first|exact dd|fail)[Try.f52,hlt,cInode])))
  all_goals simp [isDirI,he, *]
 ·have hf:hasI f i=false:=by simp only [hasI,Bool.and_eq_false_iff,decide_eq_false_iff_not];omega
  (try simp -implicitDefEqProofs (disch:=first|exact dd|fail)[Try.f52,hf]);(repeat'((with_reducible first|(refine Br.out ?_ ?_<;>intro h<;>(try(have h0:=h;simp only[bH]at h)))|refine AC_snd (impl_has _ _ _ f _ hn) ?_|fail)<;>(try simp -implicitDefEqProofs (disch:=first|exact dd|fail)[Try.f52,hf])))
  all_goals simp [isDirI,hf]
theorem impl_inUse (n1 n2 n3:Option Bool) (f:DFS) (i:Int) (hs:SmF f):Snd Try.prog 60 [fFS n1 n2 n3 f, .int .i64 i] (.bool (isFS f && hasI f i)) [.unk, .unk]:=Runs.snd (M:=M) (c:=⟨2,[2,4],[],[]⟩) tok ks mixed Try.func60 (p := []) (by kernel_rfl) (by rfl) (by rfl) <| by
 (try simp -implicitDefEqProofs (disch:=first|exact dd|fail)[Try.f60]);(repeat'((with_reducible first|(refine Br.out ?_ ?_<;>intro h<;>(try(have h0:=h;simp only[bH]at h)))|refine AC_snd (impl_IsFS _ _ _ f hs) ?_|refine AC_snd (impl_has _ _ _ f _ (tr_iff.1 (by assumption:isFS f=true)).ni) ?_|fail)<;>(try simp -implicitDefEqProofs (disch:=first|exact dd|fail)[Try.f60])))
 all_goals simp [*]
def newOwner (f:DFS) (c:DCred) (d:Int):Int × Int:=if iAnd (inodeAt f d).mode 1024=0 then (c.uid,c.gid) else (c.uid,(inodeAt f d).gid)
noncomputable def dirCode (f:DFS) (i:Int):Int:=if isFS f && hasI f i then if isDirI f i then 0 else 5 else 1
theorem isDir_use {f:DFS} {i:Int} (h:isDirI f i=true):hasI f i=true:=(Bool.and_eq_true_iff.1 h).1
theorem dir_code {f:DFS} {i:Int}:(dirCode f i=0)↔(isFS f=true∧isDirI f i=true):=by
 unfold dirCode
 by_cases h1:isFS f=true
 ·by_cases h2:hasI f i=true
  ·simp [h1,h2]
  ·have:isDirI f i=false:=by
    cases h:isDirI f i with
    | false=>rfl
    | true=>exact absurd (isDir_use h) h2
   simp [h1,h2,this]
 ·simp [h1]
def orphP (n:DInode):Bool := !decide (n.kind=0) && decide (n.links=0)
def orphF (k:Int):List DInode→List Int
 | [] => []
 | n :: l=>if orphP n then k :: orphF (k + 1) l else orphF (k + 1) l
def orph (ns:List DInode):List Int:=orphF 0 ns
theorem orphF_snoc {n:DInode}:∀ {k:Int} {l:List DInode},orphF k (l ++ [n])=if orphP n then orphF k l ++ [k + l.length] else orphF k l
 | k,[]=>by simp [orphF]
 | k,m :: l=>by
  rw [List.cons_append,orphF,orphF,orphF_snoc]
  have e:k + 1 + (l.length:Int)=k + ((m :: l).length:Int):=by rw [List.length_cons];omega
  rw [e]
  by_cases h1:orphP m=true<;>by_cases h2:orphP n=true<;>simp [h1,h2]
theorem orph_take {l:List DInode} {i:Nat} (h:i < l.length):orph (l.take (i + 1))=if orphP l[i] then orph (l.take i) ++ [(i:Int)] else orph (l.take i):=by
 rw [orph,List.take_succ_eq_append_getElem h,orphF_snoc,List.length_take,Nat.min_eq_left (Nat.le_of_lt h)]
 simp [orph]
theorem orph_len:∀ {k:Int} {l:List DInode},(orphF k l).length≤l.length
 | k,[]=>by simp [orphF]
 | k,m :: l=>by
  have:=orph_len (k:=k + 1) (l:=l)
  rw [orphF]
  split<;>simp<;>omega
theorem impl_OrphansOf (n1 n2 n3:Option Bool) (f:DFS) (hs:SmF f):Snd Try.prog 15 [fFS n1 n2 n3 f] (.row 1 ((if isFS f then orph f.inodes else []).map ci)) [.unk]:=Runs.snd (M:=M) (c:=⟨1,[1,2,3,4,5,8,11,12,13,14,25],[],[(1,[0,1,2,3,8,11,12,13,14,25])]⟩) tok ks mixed Try.func15 (p := []) (by kernel_rfl) (by rfl) (by rfl) <| by
 have k2:=hs.inodes
 (try simp -implicitDefEqProofs (disch:=first|exact dd|fail)[Try.f15]);(repeat'((with_reducible first|(refine Br.out ?_ ?_<;>intro h<;>(try(have h0:=h;simp only[bH]at h)))|refine AC_snd (impl_IsFS _ _ _ f hs) ?_|fail)<;>(try simp -implicitDefEqProofs (disch:=first|exact dd|fail)[Try.f15])))
 all_goals try (simp [*];done)
 refine AL_fors (σ:=Unit) 13 f.inodes.length (fun i _ => [(3, .ref 384 none 1 0 (orph (f.inodes.take i)).length (some false))]) (fun i _ => [(384, .row 1 ((orph (f.inodes.take i)).map ci) [])]) (fun _ _=>True) () rfl trivial (fun i _ n hlt _ ih => ?_) (fun _ n _ => ?_)
 ·have hr:=orph_take hlt
  have hrl:=orph_len (k:=0) (l:=f.inodes.take i)
  rw [List.length_take] at hrl
  have hi:=ih () trivial
  simp only [orph] at hr hi hrl ⊢
  (try simp -implicitDefEqProofs (disch:=first|exact dd|fail)[Try.f15,hlt,cInode]);(repeat'((with_reducible first|(refine Br.out ?_ ?_<;>intro h<;>(try(have h0:=h;simp only[bH]at h)))|fail)<;>(try simp -implicitDefEqProofs (disch:=first|exact dd|fail)[Try.f15,hlt,cInode])))
  all_goals first
   |(rw [if_pos (by simp [orphP, *])] at hr;simp [hr,ci] at hi;exact hi)
   |(rw [if_neg (by simp [orphP, *])] at hr;simp [hr,ci] at hi;exact hi)
 ·rw [List.take_length]
  have hy:isFS f=true:=by assumption
  (try simp -implicitDefEqProofs (disch:=first|exact dd|fail)[Try.f15,hy]);(repeat'((with_reducible first|(refine Br.out ?_ ?_<;>intro h<;>(try(have h0:=h;simp only[bH]at h)))|fail)<;>(try simp -implicitDefEqProofs (disch:=first|exact dd|fail)[Try.f15,hy])))
theorem b2l_zero:∀ c:Nat,bytesToList (List.replicate c [AV.int .u8 0])=some (List.replicate c 0)
 | 0=>rfl
 | c + 1=>by
  rw [List.replicate_succ,List.replicate_succ]
  unfold bytesToList
  rw [b2l_zero c]
  rfl
theorem impl_zeros (c:Nat) (hc:c≤1048576):Snd Try.prog 122 [.int .i64 c] (.str (List.replicate c 0)) [.unk]:=Runs.snd (M:=M) (c:=⟨1,[2],[],[]⟩) tok ks mixed Try.func122 (p := []) (by kernel_rfl) (by rfl) (by rfl) <| by
 have hb:=b2l_zero c
 (try simp -implicitDefEqProofs (disch:=first|exact dd|fail)[Try.f122,hb]);(repeat'((with_reducible first|(refine Br.out ?_ ?_<;>intro h<;>(try(have h0:=h;simp only[bH]at h)))|fail)<;>(try simp -implicitDefEqProofs (disch:=first|exact dd|fail)[Try.f122,hb])))
theorem impl_zeros32:Snd Try.prog 122 [.int .i64 32] (.str zero32) [.unk]:=impl_zeros 32 (by decide)
theorem spec_PadTo0:Snd Try.prog 144 [.str [], .int .i64 32] (.str zero32) [.unk, .unk]:=Runs.snd (M:=M) (c:=⟨2,[4,5,7,13],[],[]⟩) tok ks mixed Try.func144 (p := []) (by kernel_rfl) (by rfl) (by rfl) <| by
 (try simp -implicitDefEqProofs (disch:=first|exact dd|fail)[Try.f144]);(repeat'((with_reducible first|(refine Br.out ?_ ?_<;>intro h<;>(try(have h0:=h;simp only[bH]at h)))|fail)<;>(try simp -implicitDefEqProofs (disch:=first|exact dd|fail)[Try.f144])))
 refine AL_up (fun i=>33 - i) (fun i => [(5, .ref 640 none 1 0 i (some false))]) (fun i => [(640, .row 1 (List.replicate i [.int .u8 0]) [])]) (fun i=>i≤32) 0 rfl (by omega) ?_
 intro i n hi ih
 rcases Nat.lt_or_ge i 32 with hlt | hge
 ·have hj:=ih (i + 1) (by omega) (by omega)
  rw [List.replicate_succ'] at hj
  (try simp -implicitDefEqProofs (disch:=first|exact dd|fail)[Try.f144]);(repeat'((with_reducible first|(refine Br.out ?_ ?_<;>intro h<;>(try(have h0:=h;simp only[bH]at h)))|fail)<;>(try simp -implicitDefEqProofs (disch:=first|exact dd|fail)[Try.f144])))
  all_goals first | exact hj
 ·obtain rfl:i=32:=by omega
  have hb:=b2l_zero 32
  (try simp -implicitDefEqProofs (disch:=first|exact dd|fail)[Try.f144,hb]);(repeat'((with_reducible first|(refine Br.out ?_ ?_<;>intro h<;>(try(have h0:=h;simp only[bH]at h)))|fail)<;>(try simp -implicitDefEqProofs (disch:=first|exact dd|fail)[Try.f144,hb])))
  all_goals first | rfl
set_option maxHeartbeats 4000000 in
set_option maxRecDepth 8000 in
theorem impl_content (n1 n2 n3:Option Bool) (f:DFS) (i:Int) (hf:IsFS f) (hi:0≤i∧i < 20):Snd Try.prog 67 [pFS n1 n2 n3 f, .int .i64 i] (.str (contentN f.data (inodeAt f i))) [.unk, .unk]:=Runs.snd (M:=M) (c:=⟨2,[4,5,6,8,17,18,19,20,24],[],[(1,[0,1,4,5,6,17,18,19,20,24])]⟩) tok ks mixed Try.func67 (p := []) (by kernel_rfl) (by rfl) (by rfl) <| by
 obtain ⟨k,rfl⟩:=Int.eq_ofNat_of_zero_le hi.1
 have hni:=hf.ni
 have hlt:k < f.inodes.length:=by omega
 have he:=inodeAt_nat hlt
 have hmem:=List.getElem_mem hlt
 have hbl:=hf.blks hmem
 have hsz:=contentN_size hf hmem
 have hlen:=textB_len hbl
 have hil:=((hf.inode _ hmem).len).1
 rw [he]
 generalize hx:f.inodes[k]=x at *
 (try simp -implicitDefEqProofs (disch:=first|exact dd|fail)[Try.f67,hlt,hx,cInode]);(repeat'((with_reducible first|(refine Br.out ?_ ?_<;>intro h<;>(try(have h0:=h;simp only[bH]at h)))|fail)<;>(try simp -implicitDefEqProofs (disch:=first|exact dd|fail)[Try.f67,hlt,hx,cInode])))
 refine AL_fors (σ:=Unit) 19 x.blocks.length (fun j _ => [(6, .str (textB f.data (x.blocks.take j)))]) (fun _ _ => []) (fun _ _=>True) () rfl trivial (fun j _ n hjt _ jh => ?_) (fun _ n _ => ?_)
 ·have hr:=textB_take (data:=f.data) hjt
  have hl2:=textB_len (data:=f.data) (bs:=x.blocks.take j) ⟨hbl.1,hbl.2.1,fun b hb=>hbl.2.2 b (List.mem_of_mem_take hb)⟩
  rw [List.length_take] at hl2
  have hj:=jh () trivial
  simp only [hr] at hj
  have hd1:=hbl.1
  by_cases hb:x.blocks[j] = -1
  ·simp only [blkT,hb,if_true] at hj
   have hz32:List.length zero32=32:=rfl
   have hcc:List.length (textB f.data (List.take j x.blocks)) + List.length zero32≤1073741824:=by omega
   have hzr:List.replicate 32 (0:UInt8)=zero32:=rfl
   (try simp -implicitDefEqProofs (disch:=first|exact dd|fail)[Try.f67,hlt,hjt,hx,hb,hzr,hcc,cInode]);(repeat'((with_reducible first|(refine Br.out ?_ ?_<;>intro h<;>(try(have h0:=h;simp only[bH]at h)))|refine AC_snd (impl_zeros32) ?_|fail)<;>(try simp -implicitDefEqProofs (disch:=first|exact dd|fail)[Try.f67,hlt,hjt,hx,hb,hzr,hcc,cInode])))
   all_goals first | exact hj
  ·have hbr:=hbl.2.2 _ (List.getElem_mem hjt) hb
   obtain ⟨m,hm⟩:=Int.eq_ofNat_of_zero_le hbr.1
   have hmd:m < f.data.length:=by omega
   simp only [blkT,hb,if_false] at hj
   rw [hm] at hj hb
   have hgd:f.data.getD m []=f.data[m]:=by simp [hmd]
   simp only [Int.toNat_natCast,hgd] at hj
   have hdl:=hbl.2.1 _ (List.getElem_mem hmd)
   have hcc:List.length (textB f.data (List.take j x.blocks)) + List.length f.data[m]≤1073741824:=by omega
   (try simp -implicitDefEqProofs (disch:=first|exact dd|fail)[Try.f67,hlt,hjt,hx,hm,hb,hmd,hcc,cInode]);(repeat'((with_reducible first|(refine Br.out ?_ ?_<;>intro h<;>(try(have h0:=h;simp only[bH]at h)))|fail)<;>(try simp -implicitDefEqProofs (disch:=first|exact dd|fail)[Try.f67,hlt,hjt,hx,hm,hb,hmd,hcc,cInode])))
   all_goals first | exact hj
 ·rw [List.take_length]
  (try simp -implicitDefEqProofs (disch:=first|exact dd|fail)[Try.f67]);(repeat'((with_reducible first|(refine Br.out ?_ ?_<;>intro h<;>(try(have h0:=h;simp only[bH]at h)))|fail)<;>(try simp -implicitDefEqProofs (disch:=first|exact dd|fail)[Try.f67])))
  all_goals first | rfl
set_option maxHeartbeats 4000000 in
set_option maxRecDepth 8000 in
theorem spec_l09Text (n1 n2 n3 n4 n5 n6:Option Bool) (f:DFS) (x:DInode) (hf:IsFS f) (hmem:x ∈ f.inodes):Snd Try.prog 149 [fFS n1 n2 n3 f,fInode n4 n5 n6 x] (.str (contentN f.data x)) [.unk, .unk]:=Runs.snd (M:=M) (c:=⟨2,[2,3,4,5,7,9,10,11,12,16,32],[],[(1,[0,1,2,3,4,5,9,10,11,12,16,32])]⟩) tok ks mixed Try.func149 (p := []) (by kernel_rfl) (by rfl) (by rfl) <| by
 have hbl:=hf.blks hmem
 have hsz:=contentN_size hf hmem
 have hlen:=textB_len hbl
 have hil:=((hf.inode _ hmem).len).1
 (try simp -implicitDefEqProofs (disch:=first|exact dd|fail)[Try.f149]);(repeat'((with_reducible first|(refine Br.out ?_ ?_<;>intro h<;>(try(have h0:=h;simp only[bH]at h)))|fail)<;>(try simp -implicitDefEqProofs (disch:=first|exact dd|fail)[Try.f149])))
 refine AL_fors (σ:=Unit) 11 x.blocks.length (fun j _ => [(5, .str (textB f.data (x.blocks.take j)))]) (fun _ _ => []) (fun _ _=>True) () rfl trivial (fun j _ n hjt _ jh => ?_) (fun _ n _ => ?_)
 ·have hr:=textB_take (data:=f.data) hjt
  have hl2:=textB_len (data:=f.data) (bs:=x.blocks.take j) ⟨hbl.1,hbl.2.1,fun b hb=>hbl.2.2 b (List.mem_of_mem_take hb)⟩
  rw [List.length_take] at hl2
  have hj:=jh () trivial
  simp only [hr] at hj
  have hd1:=hbl.1
  by_cases hb:x.blocks[j] = -1
  ·simp only [blkT,hb,if_true] at hj
   have hz32:List.length zero32=32:=rfl
   have hcc:List.length (textB f.data (List.take j x.blocks)) + List.length zero32≤1073741824:=by omega
   have hzr:List.replicate 32 (0:UInt8)=zero32:=rfl
   (try simp -implicitDefEqProofs (disch:=first|exact dd|fail)[Try.f149,hjt,hb,hcc,cInode]);(repeat'((with_reducible first|(refine Br.out ?_ ?_<;>intro h<;>(try(have h0:=h;simp only[bH]at h)))|refine AC_snd (spec_PadTo0) ?_|fail)<;>(try simp -implicitDefEqProofs (disch:=first|exact dd|fail)[Try.f149,hjt,hb,hcc,cInode])))
   all_goals first | exact hj
  ·have hbr:=hbl.2.2 _ (List.getElem_mem hjt) hb
   obtain ⟨m,hm⟩:=Int.eq_ofNat_of_zero_le hbr.1
   have hmd:m < f.data.length:=by omega
   simp only [blkT,hb,if_false] at hj
   rw [hm] at hj hb
   have hgd:f.data.getD m []=f.data[m]:=by simp [hmd]
   simp only [Int.toNat_natCast,hgd] at hj
   have hdl:=hbl.2.1 _ (List.getElem_mem hmd)
   have hcc:List.length (textB f.data (List.take j x.blocks)) + List.length f.data[m]≤1073741824:=by omega
   (try simp -implicitDefEqProofs (disch:=first|exact dd|fail)[Try.f149,hjt,hm,hb,hmd,hcc,cInode]);(repeat'((with_reducible first|(refine Br.out ?_ ?_<;>intro h<;>(try(have h0:=h;simp only[bH]at h)))|fail)<;>(try simp -implicitDefEqProofs (disch:=first|exact dd|fail)[Try.f149,hjt,hm,hb,hmd,hcc,cInode])))
   all_goals first | exact hj
 ·rw [List.take_length]
  (try simp -implicitDefEqProofs (disch:=first|exact dd|fail)[Try.f149]);(repeat'((with_reducible first|(refine Br.out ?_ ?_<;>intro h<;>(try(have h0:=h;simp only[bH]at h)))|fail)<;>(try simp -implicitDefEqProofs (disch:=first|exact dd|fail)[Try.f149])))
  ·rfl
  ·exact (List.take_of_length_le (by omega)).symm
end Go.Proofs.Ytfkkfhafijgdaaa
