import Derived.Test.YtfkkfhafijgdaaaDat
import Derived.Test.YtfkkfhafijgdaaaBase
namespace Go.Proofs.Ytfkkfhafijgdaaa
open Go.Fw
set_option linter.unusedVariables false
set_option linter.unusedSimpArgs false
abbrev mLInt (xs:List Int) (k:Int):List Int:=mkL (fun _ k=>k) (fun _=>1) xs k
abbrev nLInt (xs:List Int):Nat:=wList (fun _=>1) xs
def mkAclEntry (x:DAcl) (k:Int):DAcl:={ tag:=k,id:=(k + 1),perm:=((k + 1) + 1) }
def nmAclEntry (x:DAcl):Nat:=3
abbrev mLAclEntry (xs:List DAcl) (k:Int):List DAcl:=mkL mkAclEntry nmAclEntry xs k
abbrev nLAclEntry (xs:List DAcl):Nat:=wList nmAclEntry xs
def mkQuota (x:DQuota) (k:Int):DQuota:={ inodes:=k,blocks:=(k + 1) }
def nmQuota (x:DQuota):Nat:=2
abbrev mLQuota (xs:List DQuota) (k:Int):List DQuota:=mkL mkQuota nmQuota xs k
abbrev nLQuota (xs:List DQuota):Nat:=wList nmQuota xs
def wLString (xs:List Str):Nat:=xs.length + wList List.length xs
set_option maxHeartbeats 8000000 in
set_option maxRecDepth 4000 in
theorem laws_szStringS (nl:Option Bool) (xs:List Str) (l:Int) (h0:0≤l) (h1:l≤1048576) (hl:xs.length≤maxLen) (hx:∀ x ∈ xs,x.length≤maxLen) :
  Snd Try.prog 76 [.frz 1 nl (xs.map cs), .int .i64 l] (.int .i64 (szR (wLString xs) l)) [.unk, .unk]:=Runs.snd (M:=M) (c:=⟨2,[4,5,11,15,26],[],[]⟩) tok ks mixed Try.func76 (p := []) (by kernel_rfl) (by rfl) (by rfl) <| by
 unfold maxLen at hl hx
 have hw:szR (wLString xs) l=if l - xs.length < 0 then -1 else szR (wList List.length xs) (l - xs.length):=szR_step _ _ _
 simp -implicitDefEqProofs (disch:=first|exact dd|fail)[Try.f76,ABr,AGd]
 refine ⟨fun h=>by rw [hw,if_pos h],fun h => ?_⟩
 rw [if_neg (by omega)] at hw
 refine AL_ind (ι:=Nat × Int) (fun x=>xs.length - x.1) (fun x=>⟨[(0, .frz 1 nl (xs.map cs)),(1, .int .i64 x.2),(4, .int .i64 0),(5, .int .i64 x.1)],[],false⟩)
  (fun x=>x.1≤xs.length∧0≤x.2∧x.2≤1048576∧szR (wList List.length (xs.drop x.1)) x.2=szR (wLString xs) l) (0,l - xs.length) rfl ⟨by simp,by omega,by omega,hw.symm⟩ ?_
 rintro ⟨i,a⟩ n ⟨hi,ha0,ha1,hr⟩ ih
 simp only at hi ha0 ha1 hr ⊢
 rcases Nat.lt_or_ge i xs.length with hlt | hge
 ·have hxi:=hx xs[i] (List.getElem_mem hlt)
  rw [wList_drop _ hlt,szR_step] at hr
  simp -implicitDefEqProofs (disch:=first|exact dd|fail)[Try.f76,hlt,ABr,AGd]
  refine ⟨fun h=>by rw [←hr,if_pos h],fun h => ?_⟩
  rw [if_neg (by omega)] at hr
  exact ih (i + 1,a - xs[i].length) ⟨by simp only;omega,by simp only;omega,by simp only;omega,hr⟩ (by simp only;omega)
 ·obtain rfl:i=xs.length:=by omega
  simp -implicitDefEqProofs (disch:=first|exact dd|fail)[Try.f76,ABr,AGd]
  rw [←hr,List.drop_length,wList,szR_zero ha0]
set_option maxHeartbeats 8000000 in
set_option maxRecDepth 4000 in
theorem laws_toStringS (nl:Option Bool) (xs:List Str) (hl:xs.length≤1048576) :
  Snd Try.prog 80 [.frz 1 nl (xs.map cs)] (.row 1 (xs.map cs)) [.unk]:=Runs.snd (M:=M) (c:=⟨1,[2,3,4,11],[],[]⟩) tok ks mixed Try.func80 (p := []) (by kernel_rfl) (by rfl) (by rfl) <| by
 have hl':(xs.length:Int)≤1073741824:=by omega
 simp -implicitDefEqProofs (disch:=first|exact dd|fail)[Try.f80,LIM,hl',ABr,AGd]
 rw [fillTo_zero (c:=cs)]
 refine AL_ind (fun i=>xs.length - i) (fun i=>⟨[(0, .frz 1 nl (xs.map cs)),(2, .frz 0 (some true) []),(3, .ref 384 none 1 0 xs.length (some false)),(4, .int .i64 i)],[(384, .row 1 (fillTo cs [.str []] xs i) [])],false⟩)
  (fun i=>i≤xs.length) 0 rfl (by omega) ?_
 intro i n hi ih
 rcases Nat.lt_or_ge i xs.length with hlt | hge
 ·have hs:=fillTo_set (c:=cs) (z := [.str []]) hlt
  have hg:=fillTo_get (c:=cs) (z := [.str []]) hlt
  simp only [cs] at hs hg
  simp -implicitDefEqProofs (disch:=first|exact dd|fail)[Try.f80,hlt,hs,hg,fillTo_len,ABr,AGd]
  exact ih (i + 1) (by omega) (by omega)
 ·obtain rfl:i=xs.length:=by omega
  simp -implicitDefEqProofs (disch:=first|exact dd|fail)[Try.f80,fillTo_len,fillTo_end,ABr,AGd]
set_option maxHeartbeats 8000000 in
set_option maxRecDepth 4000 in
theorem laws_eqStringS (n1 n2:Option Bool) (xs ys:List Str) (hl:xs.length≤1048576) :
  Snd Try.prog 83 [.frz 1 n1 (xs.map cs), .frz 1 n2 (ys.map cs)] (.bool (decide (xs=ys))) [.unk, .unk]:=Runs.snd (M:=M) (c:=⟨2,[4,5,10,14,25],[],[]⟩) tok ks mixed Try.func83 (p := []) (by kernel_rfl) (by rfl) (by rfl) <| by
 simp -implicitDefEqProofs (disch:=first|exact dd|fail)[Try.f83,ABr,AGd]
 refine ⟨fun h=>by rintro rfl;exact h rfl,fun h => ?_⟩
 refine AL_ind (fun i=>xs.length - i) (fun i=>⟨[(0, .frz 1 n1 (xs.map cs)),(1, .frz 1 n2 (ys.map cs)),(4, .bool false),(5, .int .i64 i)],[],false⟩)
  (fun i=>i≤xs.length∧xs.take i=ys.take i) 0 rfl ⟨by omega,rfl⟩ ?_
 rintro i n ⟨hi,he⟩ ih
 rcases Nat.lt_or_ge i xs.length with hlt | hge
 ·have hlt':i < ys.length:=by omega
  simp -implicitDefEqProofs (disch:=first|exact dd|fail)[Try.f83,hlt,hlt',ABr,AGd]
  refine ⟨fun h1=>by rintro rfl;exact h1 rfl,fun h1 => ?_⟩
  exact ih (i + 1) ⟨by omega,take_step hlt hlt' he h1⟩ (by omega)
 ·obtain rfl:i=xs.length:=by omega
  simp -implicitDefEqProofs (disch:=first|exact dd|fail)[Try.f83,ABr,AGd]
  exact take_all (by omega) he
def dgs (k:Int) (o:Str):Str:=if h:0 < k then dgs (k / 10) (UInt8.ofNat (48 + k % 10).toNat :: o) else o
 termination_by k.toNat
 decreasing_by omega
def markT (k:Int):Str:=if k≤0 then [109,48] else 109 :: dgs k []
set_option maxHeartbeats 1000000 in
theorem laws_markText (k:Int) (hk:k≤16777216) :
  Snd Try.prog 140 [.int .i64 k] (.str (markT k)) [.unk]:=Runs.snd (M:=M) (c:=⟨1,[2,3,5,7],[],[]⟩) tok ks mixed Try.func140 (p := []) (by kernel_rfl) (by rfl) (by rfl) <| by
 simp -implicitDefEqProofs (disch:=first|exact dd|fail)[Try.f140,LIM,ABr,AGd]
 refine ⟨fun h=>by simp [markT,h],fun h => ?_⟩
 refine AL_ind (ι:=Int × Str) (fun x=>x.1.toNat) (fun x=>⟨[(0, .int .i64 x.1),(2, .str []),(3, .str x.2)],[],false⟩)
  (fun x=>0≤x.1∧x.1 + x.2.length≤16777216∧dgs x.1 x.2=dgs k []) (k,[]) rfl ⟨by simp only;omega,by simp;omega,rfl⟩ ?_
 rintro ⟨a,o⟩ n ⟨ha,hb,hr⟩ ih
 simp only at ha hb hr ⊢
 rw [dgs] at hr
 by_cases h1:0 < a
 ·rw [dif_pos h1] at hr
  have hl:1 + o.length≤LIM:=by unfold LIM;omega
  simp -implicitDefEqProofs (disch:=first|exact dd|fail)[Try.f140,h1,hl,ABr,AGd]
  exact ih (a / 10,UInt8.ofNat (48 + a % 10).toNat :: o) ⟨by simp only;omega,by simp;omega,hr⟩ (by simp only;omega)
 ·obtain rfl:a=0:=by omega
  rw [dif_neg h1] at hr
  have hl:1 + o.length≤LIM:=by unfold LIM;omega
  simp -implicitDefEqProofs (disch:=first|exact dd|fail)[Try.f140,h1,hl,ABr,AGd]
  rw [markT,if_neg (by omega),hr]
abbrev mLString (xs:List Str) (k:Int):List Str:=mkL (fun _ k=>markT k) (fun _=>1) xs k
abbrev nLString (xs:List Str):Nat:=wList (fun _=>1) xs
set_option maxHeartbeats 8000000 in
set_option maxRecDepth 4000 in
theorem laws_markStringS (xs:List Str) (k:Int) (hl:xs.length≤1048576) (hk:0≤k) (hn:k + nLString xs≤16777216) :
  Snd Try.prog 85 [.row 1 (xs.map cs), .int .i64 k] (.int .i64 (k + nLString xs)) [.row 1 ((mLString xs k).map cs), .unk]:=Runs.snd (M:=M) (c:=⟨2,[4,5,9],[],[]⟩) tok ks mixed Try.func85 (p := [0]) (by kernel_rfl) (by rfl) (by rfl) <| by
 have hml:(mLString xs k).length=xs.length:=mkL_len
 simp -implicitDefEqProofs (disch:=first|exact dd|fail)[Try.f85,ABr,AGd]
 rw [patch_zero (c:=cs) (ms:=mLString xs k) (xs:=xs)]
 refine AL_ind (ι:=Nat × Int) (fun x=>xs.length - x.1) (fun x=>⟨[(0, .ref 0 none 1 0 xs.length none),(1, .int .i64 x.2),(4, .int .i64 0),(5, .int .i64 x.1)],[(0, .row 1 (patch cs (mLString xs k) xs x.1) [])],false⟩)
  (fun x=>x.1≤xs.length∧x.2=k + wList (fun _=>1) (xs.take x.1)) (0,k) rfl ⟨by simp,by simp [wList]⟩ ?_
 rintro ⟨i,a⟩ n ⟨hi,ha⟩ ih
 simp only at hi ha ⊢
 rcases Nat.lt_or_ge i xs.length with hlt | hge
 ·have hw:=wList_take (n:=(fun _=>1)) hlt
  have hle:=wList_take_le (n:=(fun _=>1)) (xs:=xs) (i:=i + 1)
  have hpl:=patch_len (c:=cs) hml hi
  have hg:=patch_get (c:=cs) hml hlt
  have hpi:=Nat.lt_of_lt_of_eq hlt hpl.symm
  rw [List.getElem?_eq_getElem hpi] at hg
  have hg:=Option.some.inj hg
  have hs:=patch_put (c:=cs) hml hlt (mkL_get (f:=(fun _ k=>markT k)) hlt)
  rw [←ha] at hs
  simp only [cs] at hg hs hw
  simp only [nLString] at hn
  simp -implicitDefEqProofs (disch:=first|exact dd|fail)[Try.f85,hlt,hg,hs,patch_len hml,List.set_set,ABr,AGd]
  refine AC_snd (laws_markText _ (by omega)) ?_
  simp -implicitDefEqProofs (disch:=first|exact dd|fail)[Try.f85,hlt,hg,hs,patch_len hml,List.set_set,ABr,AGd]
  refine ih (i + 1,_) ⟨by simp only;omega,?_⟩ (by simp only;omega)
  simp only
  omega
 ·obtain rfl:i=xs.length:=by omega
  simp -implicitDefEqProofs (disch:=first|exact dd|fail)[Try.f85,patch_len hml,patch_end hml,hml,ABr,AGd]
  rw [ha,List.take_length]
set_option maxHeartbeats 8000000 in
set_option maxRecDepth 4000 in
theorem laws_heldStringS (nl:Option Bool) (xs:List Str) (k:Int) (hl:xs.length≤1048576) (hk:0≤k) (hn:k + nLString xs≤16777216) :
  Snd Try.prog 87 [.frz 1 nl ((mLString xs k).map cs), .int .i64 k] (.int .i64 (k + nLString xs)) [.unk, .unk]:=Runs.snd (M:=M) (c:=⟨2,[4,5,9,18],[],[]⟩) tok ks mixed Try.func87 (p := []) (by kernel_rfl) (by rfl) (by rfl) <| by
 have hml:(mLString xs k).length=xs.length:=mkL_len
 simp -implicitDefEqProofs (disch:=first|exact dd|fail)[Try.f87,hml,ABr,AGd]
 refine AL_ind (ι:=Nat × Int) (fun x=>xs.length - x.1) (fun x=>⟨[(0, .frz 1 nl ((mLString xs k).map cs)),(1, .int .i64 x.2),(4, .int .i64 0),(5, .int .i64 x.1)],[],false⟩)
  (fun x=>x.1≤xs.length∧x.2=k + wList (fun _=>1) (xs.take x.1)) (0,k) rfl ⟨by simp,by simp [wList]⟩ ?_
 rintro ⟨i,a⟩ n ⟨hi,ha⟩ ih
 simp only at hi ha ⊢
 rcases Nat.lt_or_ge i xs.length with hlt | hge
 ·have hw:=wList_take (n:=(fun _=>1)) hlt
  have hle:=wList_take_le (n:=(fun _=>1)) (xs:=xs) (i:=i + 1)
  have hg:=mkL_get (f:=(fun _ k=>markT k)) (n:=(fun _=>1)) (k:=k) hlt
  rw [←ha] at hg
  have hlt':i < (mLString xs k).length:=by omega
  rw [List.getElem?_eq_getElem hlt'] at hg
  have hg:=Option.some.inj hg
  simp only [nLString] at hn
  (try simp -implicitDefEqProofs (disch:=first|exact dd|fail)[Try.f87,hlt,hlt',hg,hml]);(repeat'((with_reducible first|(refine Br.out ?_ ?_<;>intro h<;>(try(have h0:=h;simp only[bH]at h)))|refine AC_snd (laws_markText _ (by omega)) ?_|fail)<;>(try simp -implicitDefEqProofs (disch:=first|exact dd|fail)[Try.f87,hlt,hlt',hg,hml])))
  all_goals try omega
  refine ih (i + 1,_) ⟨by simp only;omega,?_⟩ (by simp only;omega)
  simp only
  omega
 ·obtain rfl:i=xs.length:=by omega
  simp -implicitDefEqProofs (disch:=first|exact dd|fail)[Try.f87,hml,ABr,AGd]
  rw [ha,List.take_length]
end Go.Proofs.Ytfkkfhafijgdaaa
