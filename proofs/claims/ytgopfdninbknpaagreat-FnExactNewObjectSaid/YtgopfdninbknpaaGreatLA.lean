import Derived.Test.YtgopfdninbknpaaGreatDat
import Derived.Test.YtgopfdninbknpaaGreatBase
namespace Go.Proofs.YtgopfdninbknpaaGreat
open Go.Fw
set_option linter.unusedVariables false
set_option linter.unusedSimpArgs false
set_option maxHeartbeats 8000000 in
set_option maxRecDepth 4000 in
theorem laws_szIntS (nl:Option Bool) (l:List Int) (n:Int) (h0:0≤n) (h1:n≤1048576) (hl:l.length≤maxLen) :
  Snd Tryz.prog 63 [.frz 1 nl (l.map ci), .int .i64 n] (.int .i64 (szR l.length n)) [.unk, .unk]:=Runs.snd (M:=M) (c:=⟨2,[4,10],[],[]⟩) tok ks mixed Tryz.func63 (p := []) (by kernel_rfl) (by rfl) (by rfl) <| by
 unfold maxLen at *
 simp -implicitDefEqProofs (disch:=first|exact dd|fail)[Tryz.f63,ABr,AGd]
 exact ⟨fun h=>by rw [szR,if_pos (by omega)],fun h=>by rw [szR,if_neg (by omega)]⟩
set_option maxHeartbeats 8000000 in
set_option maxRecDepth 4000 in
theorem laws_toIntS (nl:Option Bool) (xs:List Int) (hl:xs.length≤1048576) :
  Snd Tryz.prog 31 [.frz 1 nl (xs.map ci)] (.row 1 (xs.map ci)) [.unk]:=Runs.snd (M:=M) (c:=⟨1,[2,3,4,11],[],[]⟩) tok ks mixed Tryz.func31 (p := []) (by kernel_rfl) (by rfl) (by rfl) <| by
 have hl':(xs.length:Int)≤1073741824:=by omega
 simp -implicitDefEqProofs (disch:=first|exact dd|fail)[Tryz.f31,LIM,hl',ABr,AGd]
 rw [fillTo_zero (c:=ci)]
 refine AL_ind (fun i=>xs.length - i) (fun i=>⟨[(0, .frz 1 nl (xs.map ci)),(2, .frz 0 (some true) []),(3, .ref 384 none 1 0 xs.length (some false)),(4, .int .i64 i)],[(384, .row 1 (fillTo ci [.int .i64 0] xs i) [])],false⟩)
  (fun i=>i≤xs.length) 0 rfl (by omega) ?_
 intro i n hi ih
 rcases Nat.lt_or_ge i xs.length with hlt | hge
 ·have hs:=fillTo_set (c:=ci) (z := [.int .i64 0]) hlt
  have hg:=fillTo_get (c:=ci) (z := [.int .i64 0]) hlt
  simp only [ci] at hs hg
  simp -implicitDefEqProofs (disch:=first|exact dd|fail)[Tryz.f31,hlt,hs,hg,fillTo_len,ABr,AGd]
  exact ih (i + 1) (by omega) (by omega)
 ·obtain rfl:i=xs.length:=by omega
  simp -implicitDefEqProofs (disch:=first|exact dd|fail)[Tryz.f31,fillTo_len,fillTo_end,ABr,AGd]
set_option maxHeartbeats 8000000 in
set_option maxRecDepth 4000 in
theorem laws_eqIntS (n1 n2:Option Bool) (xs ys:List Int) (hl:xs.length≤1048576) :
  Snd Tryz.prog 33 [.frz 1 n1 (xs.map ci), .frz 1 n2 (ys.map ci)] (.bool (decide (xs=ys))) [.unk, .unk]:=Runs.snd (M:=M) (c:=⟨2,[4,5,10,14,25],[],[]⟩) tok ks mixed Tryz.func33 (p := []) (by kernel_rfl) (by rfl) (by rfl) <| by
 simp -implicitDefEqProofs (disch:=first|exact dd|fail)[Tryz.f33,ABr,AGd]
 refine ⟨fun h=>by rintro rfl;exact h rfl,fun h => ?_⟩
 refine AL_ind (fun i=>xs.length - i) (fun i=>⟨[(0, .frz 1 n1 (xs.map ci)),(1, .frz 1 n2 (ys.map ci)),(4, .bool false),(5, .int .i64 i)],[],false⟩)
  (fun i=>i≤xs.length∧xs.take i=ys.take i) 0 rfl ⟨by omega,rfl⟩ ?_
 rintro i n ⟨hi,he⟩ ih
 rcases Nat.lt_or_ge i xs.length with hlt | hge
 ·have hlt':i < ys.length:=by omega
  simp -implicitDefEqProofs (disch:=first|exact dd|fail)[Tryz.f33,hlt,hlt',ABr,AGd]
  refine ⟨fun h1=>by rintro rfl;exact h1 rfl,fun h1 => ?_⟩
  exact ih (i + 1) ⟨by omega,take_step hlt hlt' he h1⟩ (by omega)
 ·obtain rfl:i=xs.length:=by omega
  simp -implicitDefEqProofs (disch:=first|exact dd|fail)[Tryz.f33,ABr,AGd]
  exact take_all (by omega) he
abbrev mLInt (xs:List Int) (k:Int):List Int:=mkL (fun _ k=>k) (fun _=>1) xs k
abbrev nLInt (xs:List Int):Nat:=wList (fun _=>1) xs
set_option maxHeartbeats 8000000 in
set_option maxRecDepth 4000 in
theorem laws_markIntS (xs:List Int) (k:Int) (hl:xs.length≤1048576) (hk:0≤k) (hn:k + nLInt xs≤16777216) :
  Snd Tryz.prog 34 [.row 1 (xs.map ci), .int .i64 k] (.int .i64 (k + nLInt xs)) [.row 1 ((mLInt xs k).map ci), .unk]:=Runs.snd (M:=M) (c:=⟨2,[4,5,9],[],[]⟩) tok ks mixed Tryz.func34 (p := [0]) (by kernel_rfl) (by rfl) (by rfl) <| by
 have hml:(mLInt xs k).length=xs.length:=mkL_len
 simp -implicitDefEqProofs (disch:=first|exact dd|fail)[Tryz.f34,ABr,AGd]
 rw [patch_zero (c:=ci) (ms:=mLInt xs k) (xs:=xs)]
 refine AL_ind (ι:=Nat × Int) (fun x=>xs.length - x.1) (fun x=>⟨[(0, .ref 0 none 1 0 xs.length none),(1, .int .i64 x.2),(4, .int .i64 0),(5, .int .i64 x.1)],[(0, .row 1 (patch ci (mLInt xs k) xs x.1) [])],false⟩)
  (fun x=>x.1≤xs.length∧x.2=k + wList (fun _=>1) (xs.take x.1)) (0,k) rfl ⟨by simp,by simp [wList]⟩ ?_
 rintro ⟨i,a⟩ n ⟨hi,ha⟩ ih
 simp only at hi ha ⊢
 rcases Nat.lt_or_ge i xs.length with hlt | hge
 ·have hw:=wList_take (n:=(fun _=>1)) hlt
  have hle:=wList_take_le (n:=(fun _=>1)) (xs:=xs) (i:=i + 1)
  have hpl:=patch_len (c:=ci) hml hi
  have hg:=patch_get (c:=ci) hml hlt
  have hpi:=Nat.lt_of_lt_of_eq hlt hpl.symm
  rw [List.getElem?_eq_getElem hpi] at hg
  have hg:=Option.some.inj hg
  have hs:=patch_put (c:=ci) hml hlt (mkL_get (f:=(fun _ k=>k)) hlt)
  rw [←ha] at hs
  simp only [ci] at hg hs hw
  simp only [nLInt] at hn
  simp -implicitDefEqProofs (disch:=first|exact dd|fail)[Tryz.f34,hlt,hg,hs,patch_len hml,List.set_set,ABr,AGd]
  refine ih (i + 1,_) ⟨by simp only;omega,?_⟩ (by simp only;omega)
  simp only
  omega
 ·obtain rfl:i=xs.length:=by omega
  simp -implicitDefEqProofs (disch:=first|exact dd|fail)[Tryz.f34,patch_len hml,patch_end hml,hml,ABr,AGd]
  rw [ha,List.take_length]
set_option maxHeartbeats 8000000 in
set_option maxRecDepth 4000 in
theorem laws_heldIntS (nl:Option Bool) (xs:List Int) (k:Int) (hl:xs.length≤1048576) (hk:0≤k) (hn:k + nLInt xs≤16777216) :
  Snd Tryz.prog 173 [.frz 1 nl ((mLInt xs k).map ci), .int .i64 k] (.int .i64 (k + nLInt xs)) [.unk, .unk]:=Runs.snd (M:=M) (c:=⟨2,[4,5,9,17],[],[]⟩) tok ks mixed Tryz.func173 (p := []) (by kernel_rfl) (by rfl) (by rfl) <| by
 have hml:(mLInt xs k).length=xs.length:=mkL_len
 simp -implicitDefEqProofs (disch:=first|exact dd|fail)[Tryz.f173,hml,ABr,AGd]
 refine AL_ind (ι:=Nat × Int) (fun x=>xs.length - x.1) (fun x=>⟨[(0, .frz 1 nl ((mLInt xs k).map ci)),(1, .int .i64 x.2),(4, .int .i64 0),(5, .int .i64 x.1)],[],false⟩)
  (fun x=>x.1≤xs.length∧x.2=k + wList (fun _=>1) (xs.take x.1)) (0,k) rfl ⟨by simp,by simp [wList]⟩ ?_
 rintro ⟨i,a⟩ n ⟨hi,ha⟩ ih
 simp only at hi ha ⊢
 rcases Nat.lt_or_ge i xs.length with hlt | hge
 ·have hw:=wList_take (n:=(fun _=>1)) hlt
  have hle:=wList_take_le (n:=(fun _=>1)) (xs:=xs) (i:=i + 1)
  have hg:=mkL_get (f:=(fun _ k=>k)) (n:=(fun _=>1)) (k:=k) hlt
  rw [←ha] at hg
  have hlt':i < (mLInt xs k).length:=by omega
  rw [List.getElem?_eq_getElem hlt'] at hg
  have hg:=Option.some.inj hg
  simp only [nLInt] at hn
  (try simp -implicitDefEqProofs (disch:=first|exact dd|fail)[Tryz.f173,hlt,hlt',hg,hml]);(repeat'((with_reducible first|(refine Br.out ?_ ?_<;>intro h<;>(try(have h0:=h;simp only[bH]at h)))|fail)<;>(try simp -implicitDefEqProofs (disch:=first|exact dd|fail)[Tryz.f173,hlt,hlt',hg,hml])))
  all_goals try omega
  refine ih (i + 1,_) ⟨by simp only;omega,?_⟩ (by simp only;omega)
  simp only
  omega
 ·obtain rfl:i=xs.length:=by omega
  simp -implicitDefEqProofs (disch:=first|exact dd|fail)[Tryz.f173,hml,ABr,AGd]
  rw [ha,List.take_length]
set_option maxHeartbeats 8000000 in
set_option maxRecDepth 4000 in
theorem laws_toAclEntry (x:DAcl) :
  Snd Tryz.prog 262 [.agg [.int .i64 x.tag, .int .i64 x.id, .int .i64 x.perm]] (.agg [.int .i64 x.tag, .int .i64 x.id, .int .i64 x.perm]) [.unk]:=Runs.snd (M:=M) (c:=⟨1,[1,2,3],[],[]⟩) tok ks mixed Tryz.func262 (p := []) (by kernel_rfl) (by rfl) (by rfl) <| by
 simp -implicitDefEqProofs (disch:=first|exact dd|fail)[Tryz.f262,ABr,AGd]
set_option maxHeartbeats 8000000 in
set_option maxRecDepth 4000 in
theorem laws_eqAclEntry (x y:DAcl) :
  Snd Tryz.prog 271 [.agg [.int .i64 x.tag, .int .i64 x.id, .int .i64 x.perm], .agg [.int .i64 y.tag, .int .i64 y.id, .int .i64 y.perm]] (.bool (decide (x=y))) [.unk, .unk]:=Runs.snd (M:=M) (c:=⟨2,[2,3,4,9,14,19],[],[]⟩) tok ks mixed Tryz.func271 (p := []) (by kernel_rfl) (by rfl) (by rfl) <| by
 simp -implicitDefEqProofs (disch:=first|exact dd|fail)[Tryz.f271,ABr,AGd]
 refine ⟨fun h=>by (rintro rfl;first | exact h rfl | simp at h),fun _ => ?_⟩
 refine ⟨fun h=>by (rintro rfl;first | exact h rfl | simp at h),fun _ => ?_⟩
 refine ⟨fun h=>by (rintro rfl;first | exact h rfl | simp at h),fun _ => ?_⟩
 cases x
 cases y
 simp_all
set_option maxHeartbeats 8000000 in
set_option maxRecDepth 4000 in
theorem laws_szAclEntryS (nl:Option Bool) (l:List DAcl) (n:Int) (h0:0≤n) (h1:n≤1048576) (hl:l.length≤maxLen) :
  Snd Tryz.prog 214 [.frz 3 nl (l.map cAcl), .int .i64 n] (.int .i64 (szR l.length n)) [.unk, .unk]:=Runs.snd (M:=M) (c:=⟨2,[4,10],[],[]⟩) tok ks mixed Tryz.func214 (p := []) (by kernel_rfl) (by rfl) (by rfl) <| by
 unfold maxLen at *
 simp -implicitDefEqProofs (disch:=first|exact dd|fail)[Tryz.f214,ABr,AGd]
 exact ⟨fun h=>by rw [szR,if_pos (by omega)],fun h=>by rw [szR,if_neg (by omega)]⟩
set_option maxHeartbeats 8000000 in
set_option maxRecDepth 4000 in
theorem laws_toAclEntryS (nl:Option Bool) (xs:List DAcl) (hl:xs.length≤1048576) :
  Snd Tryz.prog 223 [.frz 3 nl (xs.map cAcl)] (.row 3 (xs.map cAcl)) [.unk]:=Runs.snd (M:=M) (c:=⟨1,[2,3,4,11],[],[]⟩) tok ks mixed Tryz.func223 (p := []) (by kernel_rfl) (by rfl) (by rfl) <| by
 have hl':(xs.length:Int)≤1073741824:=by omega
 simp -implicitDefEqProofs (disch:=first|exact dd|fail)[Tryz.f223,LIM,hl',ABr,AGd]
 rw [fillTo_zero (c:=cAcl)]
 refine AL_ind (fun i=>xs.length - i) (fun i=>⟨[(0, .frz 3 nl (xs.map cAcl)),(2, .frz 0 (some true) []),(3, .ref 384 none 3 0 xs.length (some false)),(4, .int .i64 i)],[(384, .row 3 (fillTo cAcl [.int .i64 0, .int .i64 0, .int .i64 0] xs i) [])],false⟩)
  (fun i=>i≤xs.length) 0 rfl (by omega) ?_
 intro i n hi ih
 rcases Nat.lt_or_ge i xs.length with hlt | hge
 ·have hs:=fillTo_set (c:=cAcl) (z := [.int .i64 0, .int .i64 0, .int .i64 0]) hlt
  have hg:=fillTo_get (c:=cAcl) (z := [.int .i64 0, .int .i64 0, .int .i64 0]) hlt
  simp only [cAcl] at hs hg
  simp -implicitDefEqProofs (disch:=first|exact dd|fail)[Tryz.f223,hlt,hs,hg,fillTo_len,cAcl,ABr,AGd]
  refine AC_snd (laws_toAclEntry  _) ?_
  simp -implicitDefEqProofs (disch:=first|exact dd|fail)[Tryz.f223,hlt,hs,hg,fillTo_len,cAcl,ABr,AGd]
  exact ih (i + 1) (by omega) (by omega)
 ·obtain rfl:i=xs.length:=by omega
  simp -implicitDefEqProofs (disch:=first|exact dd|fail)[Tryz.f223,fillTo_len,fillTo_end,ABr,AGd]
set_option maxHeartbeats 8000000 in
set_option maxRecDepth 4000 in
theorem laws_eqAclEntryS (n1 n2:Option Bool) (xs ys:List DAcl) (hl:xs.length≤1048576) :
  Snd Tryz.prog 239 [.frz 3 n1 (xs.map cAcl), .frz 3 n2 (ys.map cAcl)] (.bool (decide (xs=ys))) [.unk, .unk]:=Runs.snd (M:=M) (c:=⟨2,[4,5,10,14,26],[],[]⟩) tok ks mixed Tryz.func239 (p := []) (by kernel_rfl) (by rfl) (by rfl) <| by
 simp -implicitDefEqProofs (disch:=first|exact dd|fail)[Tryz.f239,ABr,AGd]
 refine ⟨fun h=>by rintro rfl;exact h rfl,fun h => ?_⟩
 refine AL_ind (fun i=>xs.length - i) (fun i=>⟨[(0, .frz 3 n1 (xs.map cAcl)),(1, .frz 3 n2 (ys.map cAcl)),(4, .bool false),(5, .int .i64 i)],[],false⟩)
  (fun i=>i≤xs.length∧xs.take i=ys.take i) 0 rfl ⟨by omega,rfl⟩ ?_
 rintro i n ⟨hi,he⟩ ih
 rcases Nat.lt_or_ge i xs.length with hlt | hge
 ·have hlt':i < ys.length:=by omega
  simp -implicitDefEqProofs (disch:=first|exact dd|fail)[Tryz.f239,hlt,hlt',cAcl,ABr,AGd]
  refine AC_snd (laws_eqAclEntry   _ _) ?_
  simp -implicitDefEqProofs (disch:=first|exact dd|fail)[Tryz.f239,hlt,hlt',cAcl,ABr,AGd]
  refine ⟨fun h1=>by rintro rfl;exact h1 rfl,fun h1 => ?_⟩
  exact ih (i + 1) ⟨by omega,take_step hlt hlt' he h1⟩ (by omega)
 ·obtain rfl:i=xs.length:=by omega
  simp -implicitDefEqProofs (disch:=first|exact dd|fail)[Tryz.f239,ABr,AGd]
  exact take_all (by omega) he
def mkAclEntry (x:DAcl) (k:Int):DAcl:={ tag:=k,id:=(k + 1),perm:=((k + 1) + 1) }
def nmAclEntry (x:DAcl):Nat:=3
abbrev mLAclEntry (xs:List DAcl) (k:Int):List DAcl:=mkL mkAclEntry nmAclEntry xs k
abbrev nLAclEntry (xs:List DAcl):Nat:=wList nmAclEntry xs
set_option maxHeartbeats 8000000 in
set_option maxRecDepth 4000 in
theorem laws_markAclEntryS (xs:List DAcl) (k:Int) (hl:xs.length≤1048576) (hk:0≤k) (hn:k + nLAclEntry xs≤16777216) :
  Snd Tryz.prog 171 [.row 3 (xs.map cAcl), .int .i64 k] (.int .i64 (k + nLAclEntry xs)) [.row 3 ((mLAclEntry xs k).map cAcl), .unk]:=Runs.snd (M:=M) (c:=⟨2,[4,5,9],[],[]⟩) tok ks mixed Tryz.func171 (p := [0]) (by kernel_rfl) (by rfl) (by rfl) <| by
 have hml:(mLAclEntry xs k).length=xs.length:=mkL_len
 simp -implicitDefEqProofs (disch:=first|exact dd|fail)[Tryz.f171,ABr,AGd]
 rw [patch_zero (c:=cAcl) (ms:=mLAclEntry xs k) (xs:=xs)]
 refine AL_ind (ι:=Nat × Int) (fun x=>xs.length - x.1) (fun x=>⟨[(0, .ref 0 none 3 0 xs.length none),(1, .int .i64 x.2),(4, .int .i64 0),(5, .int .i64 x.1)],[(0, .row 3 (patch cAcl (mLAclEntry xs k) xs x.1) [])],false⟩)
  (fun x=>x.1≤xs.length∧x.2=k + wList nmAclEntry (xs.take x.1)) (0,k) rfl ⟨by simp,by simp [wList]⟩ ?_
 rintro ⟨i,a⟩ n ⟨hi,ha⟩ ih
 simp only at hi ha ⊢
 rcases Nat.lt_or_ge i xs.length with hlt | hge
 ·have hw:=wList_take (n:=nmAclEntry) hlt
  have hle:=wList_take_le (n:=nmAclEntry) (xs:=xs) (i:=i + 1)
  have hpl:=patch_len (c:=cAcl) hml hi
  have hg:=patch_get (c:=cAcl) hml hlt
  have hpi:=Nat.lt_of_lt_of_eq hlt hpl.symm
  rw [List.getElem?_eq_getElem hpi] at hg
  have hg:=Option.some.inj hg
  have hs:=patch_put (c:=cAcl) hml hlt (mkL_get (f:=mkAclEntry) hlt)
  rw [←ha] at hs
  simp only [cAcl,mkAclEntry,nmAclEntry] at hg hs hw
  simp only [nLAclEntry] at hn
  simp -implicitDefEqProofs (disch:=first|exact dd|fail)[Tryz.f171,hlt,hg,hs,patch_len hml,List.set_set,cAcl,ABr,AGd]
  refine ih (i + 1,_) ⟨by simp only;omega,?_⟩ (by simp only;omega)
  simp only
  omega
 ·obtain rfl:i=xs.length:=by omega
  simp -implicitDefEqProofs (disch:=first|exact dd|fail)[Tryz.f171,patch_len hml,patch_end hml,hml,ABr,AGd]
  rw [ha,List.take_length]
set_option maxHeartbeats 8000000 in
set_option maxRecDepth 4000 in
theorem laws_heldAclEntryS (nl:Option Bool) (xs:List DAcl) (k:Int) (hl:xs.length≤1048576) (hk:0≤k) (hn:k + nLAclEntry xs≤16777216) :
  Snd Tryz.prog 174 [.frz 3 nl ((mLAclEntry xs k).map cAcl), .int .i64 k] (.int .i64 (k + nLAclEntry xs)) [.unk, .unk]:=Runs.snd (M:=M) (c:=⟨2,[4,5,9,18,27,36],[],[]⟩) tok ks mixed Tryz.func174 (p := []) (by kernel_rfl) (by rfl) (by rfl) <| by
 have hml:(mLAclEntry xs k).length=xs.length:=mkL_len
 simp -implicitDefEqProofs (disch:=first|exact dd|fail)[Tryz.f174,hml,ABr,AGd]
 refine AL_ind (ι:=Nat × Int) (fun x=>xs.length - x.1) (fun x=>⟨[(0, .frz 3 nl ((mLAclEntry xs k).map cAcl)),(1, .int .i64 x.2),(4, .int .i64 0),(5, .int .i64 x.1)],[],false⟩)
  (fun x=>x.1≤xs.length∧x.2=k + wList nmAclEntry (xs.take x.1)) (0,k) rfl ⟨by simp,by simp [wList]⟩ ?_
 rintro ⟨i,a⟩ n ⟨hi,ha⟩ ih
 simp only at hi ha ⊢
 rcases Nat.lt_or_ge i xs.length with hlt | hge
 ·have hw:=wList_take (n:=nmAclEntry) hlt
  have hle:=wList_take_le (n:=nmAclEntry) (xs:=xs) (i:=i + 1)
  have hg:=mkL_get (f:=mkAclEntry) (n:=nmAclEntry) (k:=k) hlt
  rw [←ha] at hg
  have hlt':i < (mLAclEntry xs k).length:=by omega
  rw [List.getElem?_eq_getElem hlt'] at hg
  have hg:=Option.some.inj hg
  simp only [mkAclEntry,nmAclEntry] at hg hw
  simp only [nLAclEntry] at hn
  (try simp -implicitDefEqProofs (disch:=first|exact dd|fail)[Tryz.f174,hlt,hlt',hg,hml,cAcl]);(repeat'((with_reducible first|(refine Br.out ?_ ?_<;>intro h<;>(try(have h0:=h;simp only[bH]at h)))|fail)<;>(try simp -implicitDefEqProofs (disch:=first|exact dd|fail)[Tryz.f174,hlt,hlt',hg,hml,cAcl])))
  all_goals try omega
  refine ih (i + 1,_) ⟨by simp only;omega,?_⟩ (by simp only;omega)
  simp only
  omega
 ·obtain rfl:i=xs.length:=by omega
  simp -implicitDefEqProofs (disch:=first|exact dd|fail)[Tryz.f174,hml,ABr,AGd]
  rw [ha,List.take_length]
set_option maxHeartbeats 8000000 in
set_option maxRecDepth 4000 in
theorem laws_toQuota (x:DQuota) :
  Snd Tryz.prog 151 [.agg [.int .i64 x.inodes, .int .i64 x.blocks]] (.agg [.int .i64 x.inodes, .int .i64 x.blocks]) [.unk]:=Runs.snd (M:=M) (c:=⟨1,[1,2,3],[],[]⟩) tok ks mixed Tryz.func151 (p := []) (by kernel_rfl) (by rfl) (by rfl) <| by
 simp -implicitDefEqProofs (disch:=first|exact dd|fail)[Tryz.f151,ABr,AGd]
set_option maxHeartbeats 8000000 in
set_option maxRecDepth 4000 in
theorem laws_eqQuota (x y:DQuota) :
  Snd Tryz.prog 169 [.agg [.int .i64 x.inodes, .int .i64 x.blocks], .agg [.int .i64 y.inodes, .int .i64 y.blocks]] (.bool (decide (x=y))) [.unk, .unk]:=Runs.snd (M:=M) (c:=⟨2,[2,3,4,9,14],[],[]⟩) tok ks mixed Tryz.func169 (p := []) (by kernel_rfl) (by rfl) (by rfl) <| by
 simp -implicitDefEqProofs (disch:=first|exact dd|fail)[Tryz.f169,ABr,AGd]
 refine ⟨fun h=>by (rintro rfl;first | exact h rfl | simp at h),fun _ => ?_⟩
 refine ⟨fun h=>by (rintro rfl;first | exact h rfl | simp at h),fun _ => ?_⟩
 cases x
 cases y
 simp_all
set_option maxHeartbeats 8000000 in
set_option maxRecDepth 4000 in
theorem laws_szQuotaS (nl:Option Bool) (l:List DQuota) (n:Int) (h0:0≤n) (h1:n≤1048576) (hl:l.length≤maxLen) :
  Snd Tryz.prog 60 [.frz 2 nl (l.map cQuota), .int .i64 n] (.int .i64 (szR l.length n)) [.unk, .unk]:=Runs.snd (M:=M) (c:=⟨2,[4,10],[],[]⟩) tok ks mixed Tryz.func60 (p := []) (by kernel_rfl) (by rfl) (by rfl) <| by
 unfold maxLen at *
 simp -implicitDefEqProofs (disch:=first|exact dd|fail)[Tryz.f60,ABr,AGd]
 exact ⟨fun h=>by rw [szR,if_pos (by omega)],fun h=>by rw [szR,if_neg (by omega)]⟩
set_option maxHeartbeats 8000000 in
set_option maxRecDepth 4000 in
theorem laws_toQuotaS (nl:Option Bool) (xs:List DQuota) (hl:xs.length≤1048576) :
  Snd Tryz.prog 71 [.frz 2 nl (xs.map cQuota)] (.row 2 (xs.map cQuota)) [.unk]:=Runs.snd (M:=M) (c:=⟨1,[2,3,4,11],[],[]⟩) tok ks mixed Tryz.func71 (p := []) (by kernel_rfl) (by rfl) (by rfl) <| by
 have hl':(xs.length:Int)≤1073741824:=by omega
 simp -implicitDefEqProofs (disch:=first|exact dd|fail)[Tryz.f71,LIM,hl',ABr,AGd]
 rw [fillTo_zero (c:=cQuota)]
 refine AL_ind (fun i=>xs.length - i) (fun i=>⟨[(0, .frz 2 nl (xs.map cQuota)),(2, .frz 0 (some true) []),(3, .ref 384 none 2 0 xs.length (some false)),(4, .int .i64 i)],[(384, .row 2 (fillTo cQuota [.int .i64 0, .int .i64 0] xs i) [])],false⟩)
  (fun i=>i≤xs.length) 0 rfl (by omega) ?_
 intro i n hi ih
 rcases Nat.lt_or_ge i xs.length with hlt | hge
 ·have hs:=fillTo_set (c:=cQuota) (z := [.int .i64 0, .int .i64 0]) hlt
  have hg:=fillTo_get (c:=cQuota) (z := [.int .i64 0, .int .i64 0]) hlt
  simp only [cQuota] at hs hg
  simp -implicitDefEqProofs (disch:=first|exact dd|fail)[Tryz.f71,hlt,hs,hg,fillTo_len,cQuota,ABr,AGd]
  refine AC_snd (laws_toQuota  _) ?_
  simp -implicitDefEqProofs (disch:=first|exact dd|fail)[Tryz.f71,hlt,hs,hg,fillTo_len,cQuota,ABr,AGd]
  exact ih (i + 1) (by omega) (by omega)
 ·obtain rfl:i=xs.length:=by omega
  simp -implicitDefEqProofs (disch:=first|exact dd|fail)[Tryz.f71,fillTo_len,fillTo_end,ABr,AGd]
set_option maxHeartbeats 8000000 in
set_option maxRecDepth 4000 in
theorem laws_eqQuotaS (n1 n2:Option Bool) (xs ys:List DQuota) (hl:xs.length≤1048576) :
  Snd Tryz.prog 87 [.frz 2 n1 (xs.map cQuota), .frz 2 n2 (ys.map cQuota)] (.bool (decide (xs=ys))) [.unk, .unk]:=Runs.snd (M:=M) (c:=⟨2,[4,5,10,14,26],[],[]⟩) tok ks mixed Tryz.func87 (p := []) (by kernel_rfl) (by rfl) (by rfl) <| by
 simp -implicitDefEqProofs (disch:=first|exact dd|fail)[Tryz.f87,ABr,AGd]
 refine ⟨fun h=>by rintro rfl;exact h rfl,fun h => ?_⟩
 refine AL_ind (fun i=>xs.length - i) (fun i=>⟨[(0, .frz 2 n1 (xs.map cQuota)),(1, .frz 2 n2 (ys.map cQuota)),(4, .bool false),(5, .int .i64 i)],[],false⟩)
  (fun i=>i≤xs.length∧xs.take i=ys.take i) 0 rfl ⟨by omega,rfl⟩ ?_
 rintro i n ⟨hi,he⟩ ih
 rcases Nat.lt_or_ge i xs.length with hlt | hge
 ·have hlt':i < ys.length:=by omega
  simp -implicitDefEqProofs (disch:=first|exact dd|fail)[Tryz.f87,hlt,hlt',cQuota,ABr,AGd]
  refine AC_snd (laws_eqQuota   _ _) ?_
  simp -implicitDefEqProofs (disch:=first|exact dd|fail)[Tryz.f87,hlt,hlt',cQuota,ABr,AGd]
  refine ⟨fun h1=>by rintro rfl;exact h1 rfl,fun h1 => ?_⟩
  exact ih (i + 1) ⟨by omega,take_step hlt hlt' he h1⟩ (by omega)
 ·obtain rfl:i=xs.length:=by omega
  simp -implicitDefEqProofs (disch:=first|exact dd|fail)[Tryz.f87,ABr,AGd]
  exact take_all (by omega) he
def mkQuota (x:DQuota) (k:Int):DQuota:={ inodes:=k,blocks:=(k + 1) }
def nmQuota (x:DQuota):Nat:=2
abbrev mLQuota (xs:List DQuota) (k:Int):List DQuota:=mkL mkQuota nmQuota xs k
abbrev nLQuota (xs:List DQuota):Nat:=wList nmQuota xs
set_option maxHeartbeats 8000000 in
set_option maxRecDepth 4000 in
theorem laws_markQuotaS (xs:List DQuota) (k:Int) (hl:xs.length≤1048576) (hk:0≤k) (hn:k + nLQuota xs≤16777216) :
  Snd Tryz.prog 90 [.row 2 (xs.map cQuota), .int .i64 k] (.int .i64 (k + nLQuota xs)) [.row 2 ((mLQuota xs k).map cQuota), .unk]:=Runs.snd (M:=M) (c:=⟨2,[4,5,9],[],[]⟩) tok ks mixed Tryz.func90 (p := [0]) (by kernel_rfl) (by rfl) (by rfl) <| by
 have hml:(mLQuota xs k).length=xs.length:=mkL_len
 simp -implicitDefEqProofs (disch:=first|exact dd|fail)[Tryz.f90,ABr,AGd]
 rw [patch_zero (c:=cQuota) (ms:=mLQuota xs k) (xs:=xs)]
 refine AL_ind (ι:=Nat × Int) (fun x=>xs.length - x.1) (fun x=>⟨[(0, .ref 0 none 2 0 xs.length none),(1, .int .i64 x.2),(4, .int .i64 0),(5, .int .i64 x.1)],[(0, .row 2 (patch cQuota (mLQuota xs k) xs x.1) [])],false⟩)
  (fun x=>x.1≤xs.length∧x.2=k + wList nmQuota (xs.take x.1)) (0,k) rfl ⟨by simp,by simp [wList]⟩ ?_
 rintro ⟨i,a⟩ n ⟨hi,ha⟩ ih
 simp only at hi ha ⊢
 rcases Nat.lt_or_ge i xs.length with hlt | hge
 ·have hw:=wList_take (n:=nmQuota) hlt
  have hle:=wList_take_le (n:=nmQuota) (xs:=xs) (i:=i + 1)
  have hpl:=patch_len (c:=cQuota) hml hi
  have hg:=patch_get (c:=cQuota) hml hlt
  have hpi:=Nat.lt_of_lt_of_eq hlt hpl.symm
  rw [List.getElem?_eq_getElem hpi] at hg
  have hg:=Option.some.inj hg
  have hs:=patch_put (c:=cQuota) hml hlt (mkL_get (f:=mkQuota) hlt)
  rw [←ha] at hs
  simp only [cQuota,mkQuota,nmQuota] at hg hs hw
  simp only [nLQuota] at hn
  simp -implicitDefEqProofs (disch:=first|exact dd|fail)[Tryz.f90,hlt,hg,hs,patch_len hml,List.set_set,cQuota,ABr,AGd]
  refine ih (i + 1,_) ⟨by simp only;omega,?_⟩ (by simp only;omega)
  simp only
  omega
 ·obtain rfl:i=xs.length:=by omega
  simp -implicitDefEqProofs (disch:=first|exact dd|fail)[Tryz.f90,patch_len hml,patch_end hml,hml,ABr,AGd]
  rw [ha,List.take_length]
set_option maxHeartbeats 8000000 in
set_option maxRecDepth 4000 in
theorem laws_heldQuotaS (nl:Option Bool) (xs:List DQuota) (k:Int) (hl:xs.length≤1048576) (hk:0≤k) (hn:k + nLQuota xs≤16777216) :
  Snd Tryz.prog 93 [.frz 2 nl ((mLQuota xs k).map cQuota), .int .i64 k] (.int .i64 (k + nLQuota xs)) [.unk, .unk]:=Runs.snd (M:=M) (c:=⟨2,[4,5,9,18,27],[],[]⟩) tok ks mixed Tryz.func93 (p := []) (by kernel_rfl) (by rfl) (by rfl) <| by
 have hml:(mLQuota xs k).length=xs.length:=mkL_len
 simp -implicitDefEqProofs (disch:=first|exact dd|fail)[Tryz.f93,hml,ABr,AGd]
 refine AL_ind (ι:=Nat × Int) (fun x=>xs.length - x.1) (fun x=>⟨[(0, .frz 2 nl ((mLQuota xs k).map cQuota)),(1, .int .i64 x.2),(4, .int .i64 0),(5, .int .i64 x.1)],[],false⟩)
  (fun x=>x.1≤xs.length∧x.2=k + wList nmQuota (xs.take x.1)) (0,k) rfl ⟨by simp,by simp [wList]⟩ ?_
 rintro ⟨i,a⟩ n ⟨hi,ha⟩ ih
 simp only at hi ha ⊢
 rcases Nat.lt_or_ge i xs.length with hlt | hge
 ·have hw:=wList_take (n:=nmQuota) hlt
  have hle:=wList_take_le (n:=nmQuota) (xs:=xs) (i:=i + 1)
  have hg:=mkL_get (f:=mkQuota) (n:=nmQuota) (k:=k) hlt
  rw [←ha] at hg
  have hlt':i < (mLQuota xs k).length:=by omega
  rw [List.getElem?_eq_getElem hlt'] at hg
  have hg:=Option.some.inj hg
  simp only [mkQuota,nmQuota] at hg hw
  simp only [nLQuota] at hn
  (try simp -implicitDefEqProofs (disch:=first|exact dd|fail)[Tryz.f93,hlt,hlt',hg,hml,cQuota]);(repeat'((with_reducible first|(refine Br.out ?_ ?_<;>intro h<;>(try(have h0:=h;simp only[bH]at h)))|fail)<;>(try simp -implicitDefEqProofs (disch:=first|exact dd|fail)[Tryz.f93,hlt,hlt',hg,hml,cQuota])))
  all_goals try omega
  refine ih (i + 1,_) ⟨by simp only;omega,?_⟩ (by simp only;omega)
  simp only
  omega
 ·obtain rfl:i=xs.length:=by omega
  simp -implicitDefEqProofs (disch:=first|exact dd|fail)[Tryz.f93,hml,ABr,AGd]
  rw [ha,List.take_length]
def wLString (xs:List Str):Nat:=xs.length + wList List.length xs
set_option maxHeartbeats 8000000 in
set_option maxRecDepth 4000 in
theorem laws_szStringS (nl:Option Bool) (xs:List Str) (l:Int) (h0:0≤l) (h1:l≤1048576) (hl:xs.length≤maxLen) (hx:∀ x ∈ xs,x.length≤maxLen) :
  Snd Tryz.prog 62 [.frz 1 nl (xs.map cs), .int .i64 l] (.int .i64 (szR (wLString xs) l)) [.unk, .unk]:=Runs.snd (M:=M) (c:=⟨2,[4,5,11,15,26],[],[]⟩) tok ks mixed Tryz.func62 (p := []) (by kernel_rfl) (by rfl) (by rfl) <| by
 unfold maxLen at hl hx
 have hw:szR (wLString xs) l=if l - xs.length < 0 then -1 else szR (wList List.length xs) (l - xs.length):=szR_step _ _ _
 simp -implicitDefEqProofs (disch:=first|exact dd|fail)[Tryz.f62,ABr,AGd]
 refine ⟨fun h=>by rw [hw,if_pos h],fun h => ?_⟩
 rw [if_neg (by omega)] at hw
 refine AL_ind (ι:=Nat × Int) (fun x=>xs.length - x.1) (fun x=>⟨[(0, .frz 1 nl (xs.map cs)),(1, .int .i64 x.2),(4, .int .i64 0),(5, .int .i64 x.1)],[],false⟩)
  (fun x=>x.1≤xs.length∧0≤x.2∧x.2≤1048576∧szR (wList List.length (xs.drop x.1)) x.2=szR (wLString xs) l) (0,l - xs.length) rfl ⟨by simp,by omega,by omega,hw.symm⟩ ?_
 rintro ⟨i,a⟩ n ⟨hi,ha0,ha1,hr⟩ ih
 simp only at hi ha0 ha1 hr ⊢
 rcases Nat.lt_or_ge i xs.length with hlt | hge
 ·have hxi:=hx xs[i] (List.getElem_mem hlt)
  rw [wList_drop _ hlt,szR_step] at hr
  simp -implicitDefEqProofs (disch:=first|exact dd|fail)[Tryz.f62,hlt,ABr,AGd]
  refine ⟨fun h=>by rw [←hr,if_pos h],fun h => ?_⟩
  rw [if_neg (by omega)] at hr
  exact ih (i + 1,a - xs[i].length) ⟨by simp only;omega,by simp only;omega,by simp only;omega,hr⟩ (by simp only;omega)
 ·obtain rfl:i=xs.length:=by omega
  simp -implicitDefEqProofs (disch:=first|exact dd|fail)[Tryz.f62,ABr,AGd]
  rw [←hr,List.drop_length,wList,szR_zero ha0]
set_option maxHeartbeats 8000000 in
set_option maxRecDepth 4000 in
theorem laws_toStringS (nl:Option Bool) (xs:List Str) (hl:xs.length≤1048576) :
  Snd Tryz.prog 73 [.frz 1 nl (xs.map cs)] (.row 1 (xs.map cs)) [.unk]:=Runs.snd (M:=M) (c:=⟨1,[2,3,4,11],[],[]⟩) tok ks mixed Tryz.func73 (p := []) (by kernel_rfl) (by rfl) (by rfl) <| by
 have hl':(xs.length:Int)≤1073741824:=by omega
 simp -implicitDefEqProofs (disch:=first|exact dd|fail)[Tryz.f73,LIM,hl',ABr,AGd]
 rw [fillTo_zero (c:=cs)]
 refine AL_ind (fun i=>xs.length - i) (fun i=>⟨[(0, .frz 1 nl (xs.map cs)),(2, .frz 0 (some true) []),(3, .ref 384 none 1 0 xs.length (some false)),(4, .int .i64 i)],[(384, .row 1 (fillTo cs [.str []] xs i) [])],false⟩)
  (fun i=>i≤xs.length) 0 rfl (by omega) ?_
 intro i n hi ih
 rcases Nat.lt_or_ge i xs.length with hlt | hge
 ·have hs:=fillTo_set (c:=cs) (z := [.str []]) hlt
  have hg:=fillTo_get (c:=cs) (z := [.str []]) hlt
  simp only [cs] at hs hg
  simp -implicitDefEqProofs (disch:=first|exact dd|fail)[Tryz.f73,hlt,hs,hg,fillTo_len,ABr,AGd]
  exact ih (i + 1) (by omega) (by omega)
 ·obtain rfl:i=xs.length:=by omega
  simp -implicitDefEqProofs (disch:=first|exact dd|fail)[Tryz.f73,fillTo_len,fillTo_end,ABr,AGd]
set_option maxHeartbeats 8000000 in
set_option maxRecDepth 4000 in
theorem laws_eqStringS (n1 n2:Option Bool) (xs ys:List Str) (hl:xs.length≤1048576) :
  Snd Tryz.prog 89 [.frz 1 n1 (xs.map cs), .frz 1 n2 (ys.map cs)] (.bool (decide (xs=ys))) [.unk, .unk]:=Runs.snd (M:=M) (c:=⟨2,[4,5,10,14,25],[],[]⟩) tok ks mixed Tryz.func89 (p := []) (by kernel_rfl) (by rfl) (by rfl) <| by
 simp -implicitDefEqProofs (disch:=first|exact dd|fail)[Tryz.f89,ABr,AGd]
 refine ⟨fun h=>by rintro rfl;exact h rfl,fun h => ?_⟩
 refine AL_ind (fun i=>xs.length - i) (fun i=>⟨[(0, .frz 1 n1 (xs.map cs)),(1, .frz 1 n2 (ys.map cs)),(4, .bool false),(5, .int .i64 i)],[],false⟩)
  (fun i=>i≤xs.length∧xs.take i=ys.take i) 0 rfl ⟨by omega,rfl⟩ ?_
 rintro i n ⟨hi,he⟩ ih
 rcases Nat.lt_or_ge i xs.length with hlt | hge
 ·have hlt':i < ys.length:=by omega
  simp -implicitDefEqProofs (disch:=first|exact dd|fail)[Tryz.f89,hlt,hlt',ABr,AGd]
  refine ⟨fun h1=>by rintro rfl;exact h1 rfl,fun h1 => ?_⟩
  exact ih (i + 1) ⟨by omega,take_step hlt hlt' he h1⟩ (by omega)
 ·obtain rfl:i=xs.length:=by omega
  simp -implicitDefEqProofs (disch:=first|exact dd|fail)[Tryz.f89,ABr,AGd]
  exact take_all (by omega) he
def dgs (k:Int) (o:Str):Str:=if h:0 < k then dgs (k / 10) (UInt8.ofNat (48 + k % 10).toNat :: o) else o
 termination_by k.toNat
 decreasing_by omega
def markT (k:Int):Str:=if k≤0 then [109,48] else 109 :: dgs k []
set_option maxHeartbeats 1000000 in
theorem laws_markText (k:Int) (hk:k≤16777216) :
  Snd Tryz.prog 172 [.int .i64 k] (.str (markT k)) [.unk]:=Runs.snd (M:=M) (c:=⟨1,[2,3,5,7],[],[]⟩) tok ks mixed Tryz.func172 (p := []) (by kernel_rfl) (by rfl) (by rfl) <| by
 simp -implicitDefEqProofs (disch:=first|exact dd|fail)[Tryz.f172,LIM,ABr,AGd]
 refine ⟨fun h=>by simp [markT,h],fun h => ?_⟩
 refine AL_ind (ι:=Int × Str) (fun x=>x.1.toNat) (fun x=>⟨[(0, .int .i64 x.1),(2, .str []),(3, .str x.2)],[],false⟩)
  (fun x=>0≤x.1∧x.1 + x.2.length≤16777216∧dgs x.1 x.2=dgs k []) (k,[]) rfl ⟨by simp only;omega,by simp;omega,rfl⟩ ?_
 rintro ⟨a,o⟩ n ⟨ha,hb,hr⟩ ih
 simp only at ha hb hr ⊢
 rw [dgs] at hr
 by_cases h1:0 < a
 ·rw [dif_pos h1] at hr
  have hl:1 + o.length≤LIM:=by unfold LIM;omega
  simp -implicitDefEqProofs (disch:=first|exact dd|fail)[Tryz.f172,h1,hl,ABr,AGd]
  exact ih (a / 10,UInt8.ofNat (48 + a % 10).toNat :: o) ⟨by simp only;omega,by simp;omega,hr⟩ (by simp only;omega)
 ·obtain rfl:a=0:=by omega
  rw [dif_neg h1] at hr
  have hl:1 + o.length≤LIM:=by unfold LIM;omega
  simp -implicitDefEqProofs (disch:=first|exact dd|fail)[Tryz.f172,h1,hl,ABr,AGd]
  rw [markT,if_neg (by omega),hr]
abbrev mLString (xs:List Str) (k:Int):List Str:=mkL (fun _ k=>markT k) (fun _=>1) xs k
abbrev nLString (xs:List Str):Nat:=wList (fun _=>1) xs
set_option maxHeartbeats 8000000 in
set_option maxRecDepth 4000 in
theorem laws_markStringS (xs:List Str) (k:Int) (hl:xs.length≤1048576) (hk:0≤k) (hn:k + nLString xs≤16777216) :
  Snd Tryz.prog 92 [.row 1 (xs.map cs), .int .i64 k] (.int .i64 (k + nLString xs)) [.row 1 ((mLString xs k).map cs), .unk]:=Runs.snd (M:=M) (c:=⟨2,[4,5,9],[],[]⟩) tok ks mixed Tryz.func92 (p := [0]) (by kernel_rfl) (by rfl) (by rfl) <| by
 have hml:(mLString xs k).length=xs.length:=mkL_len
 simp -implicitDefEqProofs (disch:=first|exact dd|fail)[Tryz.f92,ABr,AGd]
 rw [patch_zero (c:=cs) (ms:=mLString xs k) (xs:=xs)]
 refine AL_ind (ι:=Nat × Int) (fun x=>xs.length - x.1) (fun x=>⟨[(0, .ref 0 none 1 0 xs.length none),(1, .int .i64 x.2),(4, .int .i64 0),(5, .int .i64 x.1)],[(0, .row 1 (patch cs (mLString xs k) xs x.1) [])],false⟩)
  (fun x=>x.1≤xs.length∧x.2=k + wList (fun _=>1) (xs.take x.1)) (0,k) rfl ⟨by simp,by simp [wList]⟩ ?_
 rintro ⟨i,a⟩ n ⟨hi,ha⟩ ih
 simp only at hi ha ⊢
 rcases Nat.lt_or_ge i xs.length with hlt | hge
 ·have hw:=wList_take (n:=(fun _=>1)) hlt
  have hle:=wList_take_le (n:=(fun _=>1)) (xs:=xs) (i:=i + 1)
  have hpl:=patch_len (c:=cs) hml hi
  have hg:=patch_get (c:=cs) hml hlt
  have hpi:=Nat.lt_of_lt_of_eq hlt hpl.symm
  rw [List.getElem?_eq_getElem hpi] at hg
  have hg:=Option.some.inj hg
  have hs:=patch_put (c:=cs) hml hlt (mkL_get (f:=(fun _ k=>markT k)) hlt)
  rw [←ha] at hs
  simp only [cs] at hg hs hw
  simp only [nLString] at hn
  simp -implicitDefEqProofs (disch:=first|exact dd|fail)[Tryz.f92,hlt,hg,hs,patch_len hml,List.set_set,ABr,AGd]
  refine AC_snd (laws_markText _ (by omega)) ?_
  simp -implicitDefEqProofs (disch:=first|exact dd|fail)[Tryz.f92,hlt,hg,hs,patch_len hml,List.set_set,ABr,AGd]
  refine ih (i + 1,_) ⟨by simp only;omega,?_⟩ (by simp only;omega)
  simp only
  omega
 ·obtain rfl:i=xs.length:=by omega
  simp -implicitDefEqProofs (disch:=first|exact dd|fail)[Tryz.f92,patch_len hml,patch_end hml,hml,ABr,AGd]
  rw [ha,List.take_length]
set_option maxHeartbeats 8000000 in
set_option maxRecDepth 4000 in
theorem laws_heldStringS (nl:Option Bool) (xs:List Str) (k:Int) (hl:xs.length≤1048576) (hk:0≤k) (hn:k + nLString xs≤16777216) :
  Snd Tryz.prog 95 [.frz 1 nl ((mLString xs k).map cs), .int .i64 k] (.int .i64 (k + nLString xs)) [.unk, .unk]:=Runs.snd (M:=M) (c:=⟨2,[4,5,9,18],[],[]⟩) tok ks mixed Tryz.func95 (p := []) (by kernel_rfl) (by rfl) (by rfl) <| by
 have hml:(mLString xs k).length=xs.length:=mkL_len
 simp -implicitDefEqProofs (disch:=first|exact dd|fail)[Tryz.f95,hml,ABr,AGd]
 refine AL_ind (ι:=Nat × Int) (fun x=>xs.length - x.1) (fun x=>⟨[(0, .frz 1 nl ((mLString xs k).map cs)),(1, .int .i64 x.2),(4, .int .i64 0),(5, .int .i64 x.1)],[],false⟩)
  (fun x=>x.1≤xs.length∧x.2=k + wList (fun _=>1) (xs.take x.1)) (0,k) rfl ⟨by simp,by simp [wList]⟩ ?_
 rintro ⟨i,a⟩ n ⟨hi,ha⟩ ih
 simp only at hi ha ⊢
 rcases Nat.lt_or_ge i xs.length with hlt | hge
 ·have hw:=wList_take (n:=(fun _=>1)) hlt
  have hle:=wList_take_le (n:=(fun _=>1)) (xs:=xs) (i:=i + 1)
  have hg:=mkL_get (f:=(fun _ k=>markT k)) (n:=(fun _=>1)) (k:=k) hlt
  rw [←ha] at hg
  have hlt':i < (mLString xs k).length:=by omega
  rw [List.getElem?_eq_getElem hlt'] at hg
  have hg:=Option.some.inj hg
  simp only [nLString] at hn
  (try simp -implicitDefEqProofs (disch:=first|exact dd|fail)[Tryz.f95,hlt,hlt',hg,hml]);(repeat'((with_reducible first|(refine Br.out ?_ ?_<;>intro h<;>(try(have h0:=h;simp only[bH]at h)))|refine AC_snd (laws_markText _ (by omega)) ?_|fail)<;>(try simp -implicitDefEqProofs (disch:=first|exact dd|fail)[Tryz.f95,hlt,hlt',hg,hml])))
  all_goals try omega
  refine ih (i + 1,_) ⟨by simp only;omega,?_⟩ (by simp only;omega)
  simp only
  omega
 ·obtain rfl:i=xs.length:=by omega
  simp -implicitDefEqProofs (disch:=first|exact dd|fail)[Tryz.f95,hml,ABr,AGd]
  rw [ha,List.take_length]
end Go.Proofs.YtgopfdninbknpaaGreat
