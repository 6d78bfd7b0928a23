import Derived.Test.YtombegncnofnbaaDat
import Derived.Test.YtombegncnofnbaaBase
namespace Go.Proofs.Ytombegncnofnbaa
open Go.Fw
set_option linter.unusedVariables false
set_option linter.unusedSimpArgs false
set_option maxHeartbeats 8000000 in
set_option maxRecDepth 4000 in
theorem laws_eqIntS (n1 n2:Option Bool) (xs ys:List Int) (hl:xs.length≤1048576) :
  Snd Try.prog 57 [.frz 1 n1 (xs.map ci), .frz 1 n2 (ys.map ci)] (.bool (decide (xs=ys))) [.unk, .unk]:=Runs.snd (M:=M) (c:=⟨2,[4,5,10,14,25],[],[]⟩) tok ks mixed Try.func57 (p := []) (by kernel_rfl) (by rfl) (by rfl) <| by
 simp -implicitDefEqProofs (disch:=first|exact dd|fail)[Try.f57,ABr,AGd]
 refine ⟨fun h=>by rintro rfl;exact h rfl,fun h => ?_⟩
 refine AL_ind (fun i=>xs.length - i) (fun i=>⟨[(0, .frz 1 n1 (xs.map ci)),(1, .frz 1 n2 (ys.map ci)),(4, .bool false),(5, .int .i64 i)],[],false⟩)
  (fun i=>i≤xs.length∧xs.take i=ys.take i) 0 rfl ⟨by omega,rfl⟩ ?_
 rintro i n ⟨hi,he⟩ ih
 rcases Nat.lt_or_ge i xs.length with hlt | hge
 ·have hlt':i < ys.length:=by omega
  simp -implicitDefEqProofs (disch:=first|exact dd|fail)[Try.f57,hlt,hlt',ABr,AGd]
  refine ⟨fun h1=>by rintro rfl;exact h1 rfl,fun h1 => ?_⟩
  exact ih (i + 1) ⟨by omega,take_step hlt hlt' he h1⟩ (by omega)
 ·obtain rfl:i=xs.length:=by omega
  simp -implicitDefEqProofs (disch:=first|exact dd|fail)[Try.f57,ABr,AGd]
  exact take_all (by omega) he
abbrev mLInt (xs:List Int) (k:Int):List Int:=mkL (fun _ k=>k) (fun _=>1) xs k
abbrev nLInt (xs:List Int):Nat:=wList (fun _=>1) xs
set_option maxHeartbeats 8000000 in
set_option maxRecDepth 4000 in
theorem laws_markIntS (xs:List Int) (k:Int) (hl:xs.length≤1048576) (hk:0≤k) (hn:k + nLInt xs≤16777216) :
  Snd Try.prog 37 [.row 1 (xs.map ci), .int .i64 k] (.int .i64 (k + nLInt xs)) [.row 1 ((mLInt xs k).map ci), .unk]:=Runs.snd (M:=M) (c:=⟨2,[4,5,9],[],[]⟩) tok ks mixed Try.func37 (p := [0]) (by kernel_rfl) (by rfl) (by rfl) <| by
 have hml:(mLInt xs k).length=xs.length:=mkL_len
 simp -implicitDefEqProofs (disch:=first|exact dd|fail)[Try.f37,ABr,AGd]
 rw [patch_zero (c:=ci) (ms:=mLInt xs k) (xs:=xs)]
 refine AL_ind (ι:=Nat × Int) (fun x=>xs.length - x.1) (fun x=>⟨[(0, .ref 0 none 1 0 xs.length none),(1, .int .i64 x.2),(4, .int .i64 0),(5, .int .i64 x.1)],[(0, .row 1 (patch ci (mLInt xs k) xs x.1) [])],false⟩)
  (fun x=>x.1≤xs.length∧x.2=k + wList (fun _=>1) (xs.take x.1)) (0,k) rfl ⟨by simp,by simp [wList]⟩ ?_
 rintro ⟨i,a⟩ n ⟨hi,ha⟩ ih
 simp only at hi ha ⊢
 rcases Nat.lt_or_ge i xs.length with hlt | hge
 ·have hw:=wList_take (n:=(fun _=>1)) hlt
  have hle:=wList_take_le (n:=(fun _=>1)) (xs:=xs) (i:=i + 1)
  have hpl:=patch_len (c:=ci) hml hi
  have hg:=patch_get (c:=ci) hml hlt
  have hpi:=Nat.lt_of_lt_of_eq hlt hpl.symm
  rw [List.getElem?_eq_getElem hpi] at hg
  have hg:=Option.some.inj hg
  have hs:=patch_put (c:=ci) hml hlt (mkL_get (f:=(fun _ k=>k)) hlt)
  rw [←ha] at hs
  simp only [ci] at hg hs hw
  simp only [nLInt] at hn
  simp -implicitDefEqProofs (disch:=first|exact dd|fail)[Try.f37,hlt,hg,hs,patch_len hml,List.set_set,ABr,AGd]
  refine ih (i + 1,_) ⟨by simp only;omega,?_⟩ (by simp only;omega)
  simp only
  omega
 ·obtain rfl:i=xs.length:=by omega
  simp -implicitDefEqProofs (disch:=first|exact dd|fail)[Try.f37,patch_len hml,patch_end hml,hml,ABr,AGd]
  rw [ha,List.take_length]
set_option maxHeartbeats 8000000 in
set_option maxRecDepth 4000 in
theorem laws_heldIntS (nl:Option Bool) (xs:List Int) (k:Int) (hl:xs.length≤1048576) (hk:0≤k) (hn:k + nLInt xs≤16777216) :
  Snd Try.prog 40 [.frz 1 nl ((mLInt xs k).map ci), .int .i64 k] (.int .i64 (k + nLInt xs)) [.unk, .unk]:=Runs.snd (M:=M) (c:=⟨2,[4,5,9,17],[],[]⟩) tok ks mixed Try.func40 (p := []) (by kernel_rfl) (by rfl) (by rfl) <| by
 have hml:(mLInt xs k).length=xs.length:=mkL_len
 simp -implicitDefEqProofs (disch:=first|exact dd|fail)[Try.f40,hml,ABr,AGd]
 refine AL_ind (ι:=Nat × Int) (fun x=>xs.length - x.1) (fun x=>⟨[(0, .frz 1 nl ((mLInt xs k).map ci)),(1, .int .i64 x.2),(4, .int .i64 0),(5, .int .i64 x.1)],[],false⟩)
  (fun x=>x.1≤xs.length∧x.2=k + wList (fun _=>1) (xs.take x.1)) (0,k) rfl ⟨by simp,by simp [wList]⟩ ?_
 rintro ⟨i,a⟩ n ⟨hi,ha⟩ ih
 simp only at hi ha ⊢
 rcases Nat.lt_or_ge i xs.length with hlt | hge
 ·have hw:=wList_take (n:=(fun _=>1)) hlt
  have hle:=wList_take_le (n:=(fun _=>1)) (xs:=xs) (i:=i + 1)
  have hg:=mkL_get (f:=(fun _ k=>k)) (n:=(fun _=>1)) (k:=k) hlt
  rw [←ha] at hg
  have hlt':i < (mLInt xs k).length:=by omega
  rw [List.getElem?_eq_getElem hlt'] at hg
  have hg:=Option.some.inj hg
  simp only [nLInt] at hn
  (try simp -implicitDefEqProofs (disch:=first|exact dd|fail)[Try.f40,hlt,hlt',hg,hml]);(repeat'((with_reducible first|(refine Br.out ?_ ?_<;>intro h<;>(try(have h0:=h;simp only[bH]at h)))|fail)<;>(try simp -implicitDefEqProofs (disch:=first|exact dd|fail)[Try.f40,hlt,hlt',hg,hml])))
  all_goals try omega
  refine ih (i + 1,_) ⟨by simp only;omega,?_⟩ (by simp only;omega)
  simp only
  omega
 ·obtain rfl:i=xs.length:=by omega
  simp -implicitDefEqProofs (disch:=first|exact dd|fail)[Try.f40,hml,ABr,AGd]
  rw [ha,List.take_length]
set_option maxHeartbeats 8000000 in
set_option maxRecDepth 4000 in
theorem laws_eqAclEntry (x y:DAcl) :
  Snd Try.prog 67 [.agg [.int .i64 x.tag, .int .i64 x.id, .int .i64 x.perm], .agg [.int .i64 y.tag, .int .i64 y.id, .int .i64 y.perm]] (.bool (decide (x=y))) [.unk, .unk]:=Runs.snd (M:=M) (c:=⟨2,[2,3,4,9,14,19],[],[]⟩) tok ks mixed Try.func67 (p := []) (by kernel_rfl) (by rfl) (by rfl) <| by
 simp -implicitDefEqProofs (disch:=first|exact dd|fail)[Try.f67,ABr,AGd]
 refine ⟨fun h=>by (rintro rfl;first | exact h rfl | simp at h),fun _ => ?_⟩
 refine ⟨fun h=>by (rintro rfl;first | exact h rfl | simp at h),fun _ => ?_⟩
 refine ⟨fun h=>by (rintro rfl;first | exact h rfl | simp at h),fun _ => ?_⟩
 cases x
 cases y
 simp_all
set_option maxHeartbeats 8000000 in
set_option maxRecDepth 4000 in
theorem laws_eqAclEntryS (n1 n2:Option Bool) (xs ys:List DAcl) (hl:xs.length≤1048576) :
  Snd Try.prog 58 [.frz 3 n1 (xs.map cAcl), .frz 3 n2 (ys.map cAcl)] (.bool (decide (xs=ys))) [.unk, .unk]:=Runs.snd (M:=M) (c:=⟨2,[4,5,10,14,26],[],[]⟩) tok ks mixed Try.func58 (p := []) (by kernel_rfl) (by rfl) (by rfl) <| by
 simp -implicitDefEqProofs (disch:=first|exact dd|fail)[Try.f58,ABr,AGd]
 refine ⟨fun h=>by rintro rfl;exact h rfl,fun h => ?_⟩
 refine AL_ind (fun i=>xs.length - i) (fun i=>⟨[(0, .frz 3 n1 (xs.map cAcl)),(1, .frz 3 n2 (ys.map cAcl)),(4, .bool false),(5, .int .i64 i)],[],false⟩)
  (fun i=>i≤xs.length∧xs.take i=ys.take i) 0 rfl ⟨by omega,rfl⟩ ?_
 rintro i n ⟨hi,he⟩ ih
 rcases Nat.lt_or_ge i xs.length with hlt | hge
 ·have hlt':i < ys.length:=by omega
  simp -implicitDefEqProofs (disch:=first|exact dd|fail)[Try.f58,hlt,hlt',cAcl,ABr,AGd]
  refine AC_snd (laws_eqAclEntry   _ _) ?_
  simp -implicitDefEqProofs (disch:=first|exact dd|fail)[Try.f58,hlt,hlt',cAcl,ABr,AGd]
  refine ⟨fun h1=>by rintro rfl;exact h1 rfl,fun h1 => ?_⟩
  exact ih (i + 1) ⟨by omega,take_step hlt hlt' he h1⟩ (by omega)
 ·obtain rfl:i=xs.length:=by omega
  simp -implicitDefEqProofs (disch:=first|exact dd|fail)[Try.f58,ABr,AGd]
  exact take_all (by omega) he
def mkAclEntry (x:DAcl) (k:Int):DAcl:={ tag:=k,id:=(k + 1),perm:=((k + 1) + 1) }
def nmAclEntry (x:DAcl):Nat:=3
abbrev mLAclEntry (xs:List DAcl) (k:Int):List DAcl:=mkL mkAclEntry nmAclEntry xs k
abbrev nLAclEntry (xs:List DAcl):Nat:=wList nmAclEntry xs
set_option maxHeartbeats 8000000 in
set_option maxRecDepth 4000 in
theorem laws_markAclEntryS (xs:List DAcl) (k:Int) (hl:xs.length≤1048576) (hk:0≤k) (hn:k + nLAclEntry xs≤16777216) :
  Snd Try.prog 38 [.row 3 (xs.map cAcl), .int .i64 k] (.int .i64 (k + nLAclEntry xs)) [.row 3 ((mLAclEntry xs k).map cAcl), .unk]:=Runs.snd (M:=M) (c:=⟨2,[4,5,9],[],[]⟩) tok ks mixed Try.func38 (p := [0]) (by kernel_rfl) (by rfl) (by rfl) <| by
 have hml:(mLAclEntry xs k).length=xs.length:=mkL_len
 simp -implicitDefEqProofs (disch:=first|exact dd|fail)[Try.f38,ABr,AGd]
 rw [patch_zero (c:=cAcl) (ms:=mLAclEntry xs k) (xs:=xs)]
 refine AL_ind (ι:=Nat × Int) (fun x=>xs.length - x.1) (fun x=>⟨[(0, .ref 0 none 3 0 xs.length none),(1, .int .i64 x.2),(4, .int .i64 0),(5, .int .i64 x.1)],[(0, .row 3 (patch cAcl (mLAclEntry xs k) xs x.1) [])],false⟩)
  (fun x=>x.1≤xs.length∧x.2=k + wList nmAclEntry (xs.take x.1)) (0,k) rfl ⟨by simp,by simp [wList]⟩ ?_
 rintro ⟨i,a⟩ n ⟨hi,ha⟩ ih
 simp only at hi ha ⊢
 rcases Nat.lt_or_ge i xs.length with hlt | hge
 ·have hw:=wList_take (n:=nmAclEntry) hlt
  have hle:=wList_take_le (n:=nmAclEntry) (xs:=xs) (i:=i + 1)
  have hpl:=patch_len (c:=cAcl) hml hi
  have hg:=patch_get (c:=cAcl) hml hlt
  have hpi:=Nat.lt_of_lt_of_eq hlt hpl.symm
  rw [List.getElem?_eq_getElem hpi] at hg
  have hg:=Option.some.inj hg
  have hs:=patch_put (c:=cAcl) hml hlt (mkL_get (f:=mkAclEntry) hlt)
  rw [←ha] at hs
  simp only [cAcl,mkAclEntry,nmAclEntry] at hg hs hw
  simp only [nLAclEntry] at hn
  simp -implicitDefEqProofs (disch:=first|exact dd|fail)[Try.f38,hlt,hg,hs,patch_len hml,List.set_set,cAcl,ABr,AGd]
  refine ih (i + 1,_) ⟨by simp only;omega,?_⟩ (by simp only;omega)
  simp only
  omega
 ·obtain rfl:i=xs.length:=by omega
  simp -implicitDefEqProofs (disch:=first|exact dd|fail)[Try.f38,patch_len hml,patch_end hml,hml,ABr,AGd]
  rw [ha,List.take_length]
set_option maxHeartbeats 8000000 in
set_option maxRecDepth 4000 in
theorem laws_heldAclEntryS (nl:Option Bool) (xs:List DAcl) (k:Int) (hl:xs.length≤1048576) (hk:0≤k) (hn:k + nLAclEntry xs≤16777216) :
  Snd Try.prog 41 [.frz 3 nl ((mLAclEntry xs k).map cAcl), .int .i64 k] (.int .i64 (k + nLAclEntry xs)) [.unk, .unk]:=Runs.snd (M:=M) (c:=⟨2,[4,5,9,18,27,36],[],[]⟩) tok ks mixed Try.func41 (p := []) (by kernel_rfl) (by rfl) (by rfl) <| by
 have hml:(mLAclEntry xs k).length=xs.length:=mkL_len
 simp -implicitDefEqProofs (disch:=first|exact dd|fail)[Try.f41,hml,ABr,AGd]
 refine AL_ind (ι:=Nat × Int) (fun x=>xs.length - x.1) (fun x=>⟨[(0, .frz 3 nl ((mLAclEntry xs k).map cAcl)),(1, .int .i64 x.2),(4, .int .i64 0),(5, .int .i64 x.1)],[],false⟩)
  (fun x=>x.1≤xs.length∧x.2=k + wList nmAclEntry (xs.take x.1)) (0,k) rfl ⟨by simp,by simp [wList]⟩ ?_
 rintro ⟨i,a⟩ n ⟨hi,ha⟩ ih
 simp only at hi ha ⊢
 rcases Nat.lt_or_ge i xs.length with hlt | hge
 ·have hw:=wList_take (n:=nmAclEntry) hlt
  have hle:=wList_take_le (n:=nmAclEntry) (xs:=xs) (i:=i + 1)
  have hg:=mkL_get (f:=mkAclEntry) (n:=nmAclEntry) (k:=k) hlt
  rw [←ha] at hg
  have hlt':i < (mLAclEntry xs k).length:=by omega
  rw [List.getElem?_eq_getElem hlt'] at hg
  have hg:=Option.some.inj hg
  simp only [mkAclEntry,nmAclEntry] at hg hw
  simp only [nLAclEntry] at hn
  (try simp -implicitDefEqProofs (disch:=first|exact dd|fail)[Try.f41,hlt,hlt',hg,hml,cAcl]);(repeat'((with_reducible first|(refine Br.out ?_ ?_<;>intro h<;>(try(have h0:=h;simp only[bH]at h)))|fail)<;>(try simp -implicitDefEqProofs (disch:=first|exact dd|fail)[Try.f41,hlt,hlt',hg,hml,cAcl])))
  all_goals try omega
  refine ih (i + 1,_) ⟨by simp only;omega,?_⟩ (by simp only;omega)
  simp only
  omega
 ·obtain rfl:i=xs.length:=by omega
  simp -implicitDefEqProofs (disch:=first|exact dd|fail)[Try.f41,hml,ABr,AGd]
  rw [ha,List.take_length]
set_option maxHeartbeats 8000000 in
set_option maxRecDepth 4000 in
theorem laws_toQuota (x:DQuota) :
  Snd Try.prog 15 [.agg [.int .i64 x.inodes, .int .i64 x.blocks]] (.agg [.int .i64 x.inodes, .int .i64 x.blocks]) [.unk]:=Runs.snd (M:=M) (c:=⟨1,[1,2,3],[],[]⟩) tok ks mixed Try.func15 (p := []) (by kernel_rfl) (by rfl) (by rfl) <| by
 simp -implicitDefEqProofs (disch:=first|exact dd|fail)[Try.f15,ABr,AGd]
set_option maxHeartbeats 8000000 in
set_option maxRecDepth 4000 in
theorem laws_eqQuota (x y:DQuota) :
  Snd Try.prog 22 [.agg [.int .i64 x.inodes, .int .i64 x.blocks], .agg [.int .i64 y.inodes, .int .i64 y.blocks]] (.bool (decide (x=y))) [.unk, .unk]:=Runs.snd (M:=M) (c:=⟨2,[2,3,4,9,14],[],[]⟩) tok ks mixed Try.func22 (p := []) (by kernel_rfl) (by rfl) (by rfl) <| by
 simp -implicitDefEqProofs (disch:=first|exact dd|fail)[Try.f22,ABr,AGd]
 refine ⟨fun h=>by (rintro rfl;first | exact h rfl | simp at h),fun _ => ?_⟩
 refine ⟨fun h=>by (rintro rfl;first | exact h rfl | simp at h),fun _ => ?_⟩
 cases x
 cases y
 simp_all
set_option maxHeartbeats 8000000 in
set_option maxRecDepth 4000 in
theorem laws_szQuotaS (nl:Option Bool) (l:List DQuota) (n:Int) (h0:0≤n) (h1:n≤1048576) (hl:l.length≤maxLen) :
  Snd Try.prog 4 [.frz 2 nl (l.map cQuota), .int .i64 n] (.int .i64 (szR l.length n)) [.unk, .unk]:=Runs.snd (M:=M) (c:=⟨2,[4,10],[],[]⟩) tok ks mixed Try.func4 (p := []) (by kernel_rfl) (by rfl) (by rfl) <| by
 unfold maxLen at *
 simp -implicitDefEqProofs (disch:=first|exact dd|fail)[Try.f4,ABr,AGd]
 exact ⟨fun h=>by rw [szR,if_pos (by omega)],fun h=>by rw [szR,if_neg (by omega)]⟩
set_option maxHeartbeats 8000000 in
set_option maxRecDepth 4000 in
theorem laws_toQuotaS (nl:Option Bool) (xs:List DQuota) (hl:xs.length≤1048576) :
  Snd Try.prog 6 [.frz 2 nl (xs.map cQuota)] (.row 2 (xs.map cQuota)) [.unk]:=Runs.snd (M:=M) (c:=⟨1,[2,3,4,11],[],[]⟩) tok ks mixed Try.func6 (p := []) (by kernel_rfl) (by rfl) (by rfl) <| by
 have hl':(xs.length:Int)≤1073741824:=by omega
 simp -implicitDefEqProofs (disch:=first|exact dd|fail)[Try.f6,LIM,hl',ABr,AGd]
 rw [fillTo_zero (c:=cQuota)]
 refine AL_ind (fun i=>xs.length - i) (fun i=>⟨[(0, .frz 2 nl (xs.map cQuota)),(2, .frz 0 (some true) []),(3, .ref 384 none 2 0 xs.length (some false)),(4, .int .i64 i)],[(384, .row 2 (fillTo cQuota [.int .i64 0, .int .i64 0] xs i) [])],false⟩)
  (fun i=>i≤xs.length) 0 rfl (by omega) ?_
 intro i n hi ih
 rcases Nat.lt_or_ge i xs.length with hlt | hge
 ·have hs:=fillTo_set (c:=cQuota) (z := [.int .i64 0, .int .i64 0]) hlt
  have hg:=fillTo_get (c:=cQuota) (z := [.int .i64 0, .int .i64 0]) hlt
  simp only [cQuota] at hs hg
  simp -implicitDefEqProofs (disch:=first|exact dd|fail)[Try.f6,hlt,hs,hg,fillTo_len,cQuota,ABr,AGd]
  refine AC_snd (laws_toQuota  _) ?_
  simp -implicitDefEqProofs (disch:=first|exact dd|fail)[Try.f6,hlt,hs,hg,fillTo_len,cQuota,ABr,AGd]
  exact ih (i + 1) (by omega) (by omega)
 ·obtain rfl:i=xs.length:=by omega
  simp -implicitDefEqProofs (disch:=first|exact dd|fail)[Try.f6,fillTo_len,fillTo_end,ABr,AGd]
set_option maxHeartbeats 8000000 in
set_option maxRecDepth 4000 in
theorem laws_eqQuotaS (n1 n2:Option Bool) (xs ys:List DQuota) (hl:xs.length≤1048576) :
  Snd Try.prog 9 [.frz 2 n1 (xs.map cQuota), .frz 2 n2 (ys.map cQuota)] (.bool (decide (xs=ys))) [.unk, .unk]:=Runs.snd (M:=M) (c:=⟨2,[4,5,10,14,26],[],[]⟩) tok ks mixed Try.func9 (p := []) (by kernel_rfl) (by rfl) (by rfl) <| by
 simp -implicitDefEqProofs (disch:=first|exact dd|fail)[Try.f9,ABr,AGd]
 refine ⟨fun h=>by rintro rfl;exact h rfl,fun h => ?_⟩
 refine AL_ind (fun i=>xs.length - i) (fun i=>⟨[(0, .frz 2 n1 (xs.map cQuota)),(1, .frz 2 n2 (ys.map cQuota)),(4, .bool false),(5, .int .i64 i)],[],false⟩)
  (fun i=>i≤xs.length∧xs.take i=ys.take i) 0 rfl ⟨by omega,rfl⟩ ?_
 rintro i n ⟨hi,he⟩ ih
 rcases Nat.lt_or_ge i xs.length with hlt | hge
 ·have hlt':i < ys.length:=by omega
  simp -implicitDefEqProofs (disch:=first|exact dd|fail)[Try.f9,hlt,hlt',cQuota,ABr,AGd]
  refine AC_snd (laws_eqQuota   _ _) ?_
  simp -implicitDefEqProofs (disch:=first|exact dd|fail)[Try.f9,hlt,hlt',cQuota,ABr,AGd]
  refine ⟨fun h1=>by rintro rfl;exact h1 rfl,fun h1 => ?_⟩
  exact ih (i + 1) ⟨by omega,take_step hlt hlt' he h1⟩ (by omega)
 ·obtain rfl:i=xs.length:=by omega
  simp -implicitDefEqProofs (disch:=first|exact dd|fail)[Try.f9,ABr,AGd]
  exact take_all (by omega) he
def mkQuota (x:DQuota) (k:Int):DQuota:={ inodes:=k,blocks:=(k + 1) }
def nmQuota (x:DQuota):Nat:=2
abbrev mLQuota (xs:List DQuota) (k:Int):List DQuota:=mkL mkQuota nmQuota xs k
abbrev nLQuota (xs:List DQuota):Nat:=wList nmQuota xs
set_option maxHeartbeats 8000000 in
set_option maxRecDepth 4000 in
theorem laws_markQuotaS (xs:List DQuota) (k:Int) (hl:xs.length≤1048576) (hk:0≤k) (hn:k + nLQuota xs≤16777216) :
  Snd Try.prog 10 [.row 2 (xs.map cQuota), .int .i64 k] (.int .i64 (k + nLQuota xs)) [.row 2 ((mLQuota xs k).map cQuota), .unk]:=Runs.snd (M:=M) (c:=⟨2,[4,5,9],[],[]⟩) tok ks mixed Try.func10 (p := [0]) (by kernel_rfl) (by rfl) (by rfl) <| by
 have hml:(mLQuota xs k).length=xs.length:=mkL_len
 simp -implicitDefEqProofs (disch:=first|exact dd|fail)[Try.f10,ABr,AGd]
 rw [patch_zero (c:=cQuota) (ms:=mLQuota xs k) (xs:=xs)]
 refine AL_ind (ι:=Nat × Int) (fun x=>xs.length - x.1) (fun x=>⟨[(0, .ref 0 none 2 0 xs.length none),(1, .int .i64 x.2),(4, .int .i64 0),(5, .int .i64 x.1)],[(0, .row 2 (patch cQuota (mLQuota xs k) xs x.1) [])],false⟩)
  (fun x=>x.1≤xs.length∧x.2=k + wList nmQuota (xs.take x.1)) (0,k) rfl ⟨by simp,by simp [wList]⟩ ?_
 rintro ⟨i,a⟩ n ⟨hi,ha⟩ ih
 simp only at hi ha ⊢
 rcases Nat.lt_or_ge i xs.length with hlt | hge
 ·have hw:=wList_take (n:=nmQuota) hlt
  have hle:=wList_take_le (n:=nmQuota) (xs:=xs) (i:=i + 1)
  have hpl:=patch_len (c:=cQuota) hml hi
  have hg:=patch_get (c:=cQuota) hml hlt
  have hpi:=Nat.lt_of_lt_of_eq hlt hpl.symm
  rw [List.getElem?_eq_getElem hpi] at hg
  have hg:=Option.some.inj hg
  have hs:=patch_put (c:=cQuota) hml hlt (mkL_get (f:=mkQuota) hlt)
  rw [←ha] at hs
  simp only [cQuota,mkQuota,nmQuota] at hg hs hw
  simp only [nLQuota] at hn
  simp -implicitDefEqProofs (disch:=first|exact dd|fail)[Try.f10,hlt,hg,hs,patch_len hml,List.set_set,cQuota,ABr,AGd]
  refine ih (i + 1,_) ⟨by simp only;omega,?_⟩ (by simp only;omega)
  simp only
  omega
 ·obtain rfl:i=xs.length:=by omega
  simp -implicitDefEqProofs (disch:=first|exact dd|fail)[Try.f10,patch_len hml,patch_end hml,hml,ABr,AGd]
  rw [ha,List.take_length]
set_option maxHeartbeats 8000000 in
set_option maxRecDepth 4000 in
theorem laws_heldQuotaS (nl:Option Bool) (xs:List DQuota) (k:Int) (hl:xs.length≤1048576) (hk:0≤k) (hn:k + nLQuota xs≤16777216) :
  Snd Try.prog 25 [.frz 2 nl ((mLQuota xs k).map cQuota), .int .i64 k] (.int .i64 (k + nLQuota xs)) [.unk, .unk]:=Runs.snd (M:=M) (c:=⟨2,[4,5,9,18,27],[],[]⟩) tok ks mixed Try.func25 (p := []) (by kernel_rfl) (by rfl) (by rfl) <| by
 have hml:(mLQuota xs k).length=xs.length:=mkL_len
 simp -implicitDefEqProofs (disch:=first|exact dd|fail)[Try.f25,hml,ABr,AGd]
 refine AL_ind (ι:=Nat × Int) (fun x=>xs.length - x.1) (fun x=>⟨[(0, .frz 2 nl ((mLQuota xs k).map cQuota)),(1, .int .i64 x.2),(4, .int .i64 0),(5, .int .i64 x.1)],[],false⟩)
  (fun x=>x.1≤xs.length∧x.2=k + wList nmQuota (xs.take x.1)) (0,k) rfl ⟨by simp,by simp [wList]⟩ ?_
 rintro ⟨i,a⟩ n ⟨hi,ha⟩ ih
 simp only at hi ha ⊢
 rcases Nat.lt_or_ge i xs.length with hlt | hge
 ·have hw:=wList_take (n:=nmQuota) hlt
  have hle:=wList_take_le (n:=nmQuota) (xs:=xs) (i:=i + 1)
  have hg:=mkL_get (f:=mkQuota) (n:=nmQuota) (k:=k) hlt
  rw [←ha] at hg
  have hlt':i < (mLQuota xs k).length:=by omega
  rw [List.getElem?_eq_getElem hlt'] at hg
  have hg:=Option.some.inj hg
  simp only [mkQuota,nmQuota] at hg hw
  simp only [nLQuota] at hn
  (try simp -implicitDefEqProofs (disch:=first|exact dd|fail)[Try.f25,hlt,hlt',hg,hml,cQuota]);(repeat'((with_reducible first|(refine Br.out ?_ ?_<;>intro h<;>(try(have h0:=h;simp only[bH]at h)))|fail)<;>(try simp -implicitDefEqProofs (disch:=first|exact dd|fail)[Try.f25,hlt,hlt',hg,hml,cQuota])))
  all_goals try omega
  refine ih (i + 1,_) ⟨by simp only;omega,?_⟩ (by simp only;omega)
  simp only
  omega
 ·obtain rfl:i=xs.length:=by omega
  simp -implicitDefEqProofs (disch:=first|exact dd|fail)[Try.f25,hml,ABr,AGd]
  rw [ha,List.take_length]
def wLString (xs:List Str):Nat:=xs.length + wList List.length xs
set_option maxHeartbeats 8000000 in
set_option maxRecDepth 4000 in
theorem laws_eqStringS (n1 n2:Option Bool) (xs ys:List Str) (hl:xs.length≤1048576) :
  Snd Try.prog 21 [.frz 1 n1 (xs.map cs), .frz 1 n2 (ys.map cs)] (.bool (decide (xs=ys))) [.unk, .unk]:=Runs.snd (M:=M) (c:=⟨2,[4,5,10,14,25],[],[]⟩) tok ks mixed Try.func21 (p := []) (by kernel_rfl) (by rfl) (by rfl) <| by
 simp -implicitDefEqProofs (disch:=first|exact dd|fail)[Try.f21,ABr,AGd]
 refine ⟨fun h=>by rintro rfl;exact h rfl,fun h => ?_⟩
 refine AL_ind (fun i=>xs.length - i) (fun i=>⟨[(0, .frz 1 n1 (xs.map cs)),(1, .frz 1 n2 (ys.map cs)),(4, .bool false),(5, .int .i64 i)],[],false⟩)
  (fun i=>i≤xs.length∧xs.take i=ys.take i) 0 rfl ⟨by omega,rfl⟩ ?_
 rintro i n ⟨hi,he⟩ ih
 rcases Nat.lt_or_ge i xs.length with hlt | hge
 ·have hlt':i < ys.length:=by omega
  simp -implicitDefEqProofs (disch:=first|exact dd|fail)[Try.f21,hlt,hlt',ABr,AGd]
  refine ⟨fun h1=>by rintro rfl;exact h1 rfl,fun h1 => ?_⟩
  exact ih (i + 1) ⟨by omega,take_step hlt hlt' he h1⟩ (by omega)
 ·obtain rfl:i=xs.length:=by omega
  simp -implicitDefEqProofs (disch:=first|exact dd|fail)[Try.f21,ABr,AGd]
  exact take_all (by omega) he
def dgs (k:Int) (o:Str):Str:=if h:0 < k then dgs (k / 10) (UInt8.ofNat (48 + k % 10).toNat :: o) else o
 termination_by k.toNat
 decreasing_by omega
def markT (k:Int):Str:=if k≤0 then [109,48] else 109 :: dgs k []
set_option maxHeartbeats 1000000 in
theorem laws_markText (k:Int) (hk:k≤16777216) :
  Snd Try.prog 39 [.int .i64 k] (.str (markT k)) [.unk]:=Runs.snd (M:=M) (c:=⟨1,[2,3,5,7],[],[]⟩) tok ks mixed Try.func39 (p := []) (by kernel_rfl) (by rfl) (by rfl) <| by
 simp -implicitDefEqProofs (disch:=first|exact dd|fail)[Try.f39,LIM,ABr,AGd]
 refine ⟨fun h=>by simp [markT,h],fun h => ?_⟩
 refine AL_ind (ι:=Int × Str) (fun x=>x.1.toNat) (fun x=>⟨[(0, .int .i64 x.1),(2, .str []),(3, .str x.2)],[],false⟩)
  (fun x=>0≤x.1∧x.1 + x.2.length≤16777216∧dgs x.1 x.2=dgs k []) (k,[]) rfl ⟨by simp only;omega,by simp;omega,rfl⟩ ?_
 rintro ⟨a,o⟩ n ⟨ha,hb,hr⟩ ih
 simp only at ha hb hr ⊢
 rw [dgs] at hr
 by_cases h1:0 < a
 ·rw [dif_pos h1] at hr
  have hl:1 + o.length≤LIM:=by unfold LIM;omega
  simp -implicitDefEqProofs (disch:=first|exact dd|fail)[Try.f39,h1,hl,ABr,AGd]
  exact ih (a / 10,UInt8.ofNat (48 + a % 10).toNat :: o) ⟨by simp only;omega,by simp;omega,hr⟩ (by simp only;omega)
 ·obtain rfl:a=0:=by omega
  rw [dif_neg h1] at hr
  have hl:1 + o.length≤LIM:=by unfold LIM;omega
  simp -implicitDefEqProofs (disch:=first|exact dd|fail)[Try.f39,h1,hl,ABr,AGd]
  rw [markT,if_neg (by omega),hr]
abbrev mLString (xs:List Str) (k:Int):List Str:=mkL (fun _ k=>markT k) (fun _=>1) xs k
abbrev nLString (xs:List Str):Nat:=wList (fun _=>1) xs
set_option maxHeartbeats 8000000 in
set_option maxRecDepth 4000 in
theorem laws_markStringS (xs:List Str) (k:Int) (hl:xs.length≤1048576) (hk:0≤k) (hn:k + nLString xs≤16777216) :
  Snd Try.prog 24 [.row 1 (xs.map cs), .int .i64 k] (.int .i64 (k + nLString xs)) [.row 1 ((mLString xs k).map cs), .unk]:=Runs.snd (M:=M) (c:=⟨2,[4,5,9],[],[]⟩) tok ks mixed Try.func24 (p := [0]) (by kernel_rfl) (by rfl) (by rfl) <| by
 have hml:(mLString xs k).length=xs.length:=mkL_len
 simp -implicitDefEqProofs (disch:=first|exact dd|fail)[Try.f24,ABr,AGd]
 rw [patch_zero (c:=cs) (ms:=mLString xs k) (xs:=xs)]
 refine AL_ind (ι:=Nat × Int) (fun x=>xs.length - x.1) (fun x=>⟨[(0, .ref 0 none 1 0 xs.length none),(1, .int .i64 x.2),(4, .int .i64 0),(5, .int .i64 x.1)],[(0, .row 1 (patch cs (mLString xs k) xs x.1) [])],false⟩)
  (fun x=>x.1≤xs.length∧x.2=k + wList (fun _=>1) (xs.take x.1)) (0,k) rfl ⟨by simp,by simp [wList]⟩ ?_
 rintro ⟨i,a⟩ n ⟨hi,ha⟩ ih
 simp only at hi ha ⊢
 rcases Nat.lt_or_ge i xs.length with hlt | hge
 ·have hw:=wList_take (n:=(fun _=>1)) hlt
  have hle:=wList_take_le (n:=(fun _=>1)) (xs:=xs) (i:=i + 1)
  have hpl:=patch_len (c:=cs) hml hi
  have hg:=patch_get (c:=cs) hml hlt
  have hpi:=Nat.lt_of_lt_of_eq hlt hpl.symm
  rw [List.getElem?_eq_getElem hpi] at hg
  have hg:=Option.some.inj hg
  have hs:=patch_put (c:=cs) hml hlt (mkL_get (f:=(fun _ k=>markT k)) hlt)
  rw [←ha] at hs
  simp only [cs] at hg hs hw
  simp only [nLString] at hn
  simp -implicitDefEqProofs (disch:=first|exact dd|fail)[Try.f24,hlt,hg,hs,patch_len hml,List.set_set,ABr,AGd]
  refine AC_snd (laws_markText _ (by omega)) ?_
  simp -implicitDefEqProofs (disch:=first|exact dd|fail)[Try.f24,hlt,hg,hs,patch_len hml,List.set_set,ABr,AGd]
  refine ih (i + 1,_) ⟨by simp only;omega,?_⟩ (by simp only;omega)
  simp only
  omega
 ·obtain rfl:i=xs.length:=by omega
  simp -implicitDefEqProofs (disch:=first|exact dd|fail)[Try.f24,patch_len hml,patch_end hml,hml,ABr,AGd]
  rw [ha,List.take_length]
set_option maxHeartbeats 8000000 in
set_option maxRecDepth 4000 in
theorem laws_heldStringS (nl:Option Bool) (xs:List Str) (k:Int) (hl:xs.length≤1048576) (hk:0≤k) (hn:k + nLString xs≤16777216) :
  Snd Try.prog 27 [.frz 1 nl ((mLString xs k).map cs), .int .i64 k] (.int .i64 (k + nLString xs)) [.unk, .unk]:=Runs.snd (M:=M) (c:=⟨2,[4,5,9,18],[],[]⟩) tok ks mixed Try.func27 (p := []) (by kernel_rfl) (by rfl) (by rfl) <| by
 have hml:(mLString xs k).length=xs.length:=mkL_len
 simp -implicitDefEqProofs (disch:=first|exact dd|fail)[Try.f27,hml,ABr,AGd]
 refine AL_ind (ι:=Nat × Int) (fun x=>xs.length - x.1) (fun x=>⟨[(0, .frz 1 nl ((mLString xs k).map cs)),(1, .int .i64 x.2),(4, .int .i64 0),(5, .int .i64 x.1)],[],false⟩)
  (fun x=>x.1≤xs.length∧x.2=k + wList (fun _=>1) (xs.take x.1)) (0,k) rfl ⟨by simp,by simp [wList]⟩ ?_
 rintro ⟨i,a⟩ n ⟨hi,ha⟩ ih
 simp only at hi ha ⊢
 rcases Nat.lt_or_ge i xs.length with hlt | hge
 ·have hw:=wList_take (n:=(fun _=>1)) hlt
  have hle:=wList_take_le (n:=(fun _=>1)) (xs:=xs) (i:=i + 1)
  have hg:=mkL_get (f:=(fun _ k=>markT k)) (n:=(fun _=>1)) (k:=k) hlt
  rw [←ha] at hg
  have hlt':i < (mLString xs k).length:=by omega
  rw [List.getElem?_eq_getElem hlt'] at hg
  have hg:=Option.some.inj hg
  simp only [nLString] at hn
  (try simp -implicitDefEqProofs (disch:=first|exact dd|fail)[Try.f27,hlt,hlt',hg,hml]);(repeat'((with_reducible first|(refine Br.out ?_ ?_<;>intro h<;>(try(have h0:=h;simp only[bH]at h)))|refine AC_snd (laws_markText _ (by omega)) ?_|fail)<;>(try simp -implicitDefEqProofs (disch:=first|exact dd|fail)[Try.f27,hlt,hlt',hg,hml])))
  all_goals try omega
  refine ih (i + 1,_) ⟨by simp only;omega,?_⟩ (by simp only;omega)
  simp only
  omega
 ·obtain rfl:i=xs.length:=by omega
  simp -implicitDefEqProofs (disch:=first|exact dd|fail)[Try.f27,hml,ABr,AGd]
  rw [ha,List.take_length]
end Go.Proofs.Ytombegncnofnbaa
