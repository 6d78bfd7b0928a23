import Derived.Test.YtpdpcmgdfjpckaaDat
import Derived.Test.YtpdpcmgdfjpckaaBase
namespace Go.Proofs.Ytpdpcmgdfjpckaa
open Go.Fw
set_option linter.unusedVariables false
set_option linter.unusedSimpArgs false
abbrev mLInt (xs:List Int) (k:Int):List Int:=mkL (fun _ k=>k) (fun _=>1) xs k
abbrev nLInt (xs:List Int):Nat:=wList (fun _=>1) xs
def mkAclEntry (x:DAcl) (k:Int):DAcl:={ tag:=k,id:=(k + 1),perm:=((k + 1) + 1) }
def nmAclEntry (x:DAcl):Nat:=3
abbrev mLAclEntry (xs:List DAcl) (k:Int):List DAcl:=mkL mkAclEntry nmAclEntry xs k
abbrev nLAclEntry (xs:List DAcl):Nat:=wList nmAclEntry xs
def mkQuota (x:DQuota) (k:Int):DQuota:={ inodes:=k,blocks:=(k + 1) }
def nmQuota (x:DQuota):Nat:=2
abbrev mLQuota (xs:List DQuota) (k:Int):List DQuota:=mkL mkQuota nmQuota xs k
abbrev nLQuota (xs:List DQuota):Nat:=wList nmQuota xs
def wLString (xs:List Str):Nat:=xs.length + wList List.length xs
set_option maxHeartbeats 8000000 in
set_option maxRecDepth 4000 in
theorem laws_szStringS (nl:Option Bool) (xs:List Str) (l:Int) (h0:0≤l) (h1:l≤1048576) (hl:xs.length≤maxLen) (hx:∀ x ∈ xs,x.length≤maxLen) :
  Snd Try.prog 4 [.frz 1 nl (xs.map cs), .int .i64 l] (.int .i64 (szR (wLString xs) l)) [.unk, .unk]:=Runs.snd (M:=M) (c:=⟨2,[4,5,11,15,26],[],[]⟩) tok ks mixed Try.func4 (p := []) (by kernel_rfl) (by rfl) (by rfl) <| by
 unfold maxLen at hl hx
 have hw:szR (wLString xs) l=if l - xs.length < 0 then -1 else szR (wList List.length xs) (l - xs.length):=szR_step _ _ _
 simp -implicitDefEqProofs (disch:=first|exact dd|fail)[Try.f4,ABr,AGd]
 refine ⟨fun h=>by rw [hw,if_pos h],fun h => ?_⟩
 rw [if_neg (by omega)] at hw
 refine AL_ind (ι:=Nat × Int) (fun x=>xs.length - x.1) (fun x=>⟨[(0, .frz 1 nl (xs.map cs)),(1, .int .i64 x.2),(4, .int .i64 0),(5, .int .i64 x.1)],[],false⟩)
  (fun x=>x.1≤xs.length∧0≤x.2∧x.2≤1048576∧szR (wList List.length (xs.drop x.1)) x.2=szR (wLString xs) l) (0,l - xs.length) rfl ⟨by simp,by omega,by omega,hw.symm⟩ ?_
 rintro ⟨i,a⟩ n ⟨hi,ha0,ha1,hr⟩ ih
 simp only at hi ha0 ha1 hr ⊢
 rcases Nat.lt_or_ge i xs.length with hlt | hge
 ·have hxi:=hx xs[i] (List.getElem_mem hlt)
  rw [wList_drop _ hlt,szR_step] at hr
  simp -implicitDefEqProofs (disch:=first|exact dd|fail)[Try.f4,hlt,ABr,AGd]
  refine ⟨fun h=>by rw [←hr,if_pos h],fun h => ?_⟩
  rw [if_neg (by omega)] at hr
  exact ih (i + 1,a - xs[i].length) ⟨by simp only;omega,by simp only;omega,by simp only;omega,hr⟩ (by simp only;omega)
 ·obtain rfl:i=xs.length:=by omega
  simp -implicitDefEqProofs (disch:=first|exact dd|fail)[Try.f4,ABr,AGd]
  rw [←hr,List.drop_length,wList,szR_zero ha0]
set_option maxHeartbeats 8000000 in
set_option maxRecDepth 4000 in
theorem laws_toStringS (nl:Option Bool) (xs:List Str) (hl:xs.length≤1048576) :
  Snd Try.prog 6 [.frz 1 nl (xs.map cs)] (.row 1 (xs.map cs)) [.unk]:=Runs.snd (M:=M) (c:=⟨1,[2,3,4,11],[],[]⟩) tok ks mixed Try.func6 (p := []) (by kernel_rfl) (by rfl) (by rfl) <| by
 have hl':(xs.length:Int)≤1073741824:=by omega
 simp -implicitDefEqProofs (disch:=first|exact dd|fail)[Try.f6,LIM,hl',ABr,AGd]
 rw [fillTo_zero (c:=cs)]
 refine AL_ind (fun i=>xs.length - i) (fun i=>⟨[(0, .frz 1 nl (xs.map cs)),(2, .frz 0 (some true) []),(3, .ref 384 none 1 0 xs.length (some false)),(4, .int .i64 i)],[(384, .row 1 (fillTo cs [.str []] xs i) [])],false⟩)
  (fun i=>i≤xs.length) 0 rfl (by omega) ?_
 intro i n hi ih
 rcases Nat.lt_or_ge i xs.length with hlt | hge
 ·have hs:=fillTo_set (c:=cs) (z := [.str []]) hlt
  have hg:=fillTo_get (c:=cs) (z := [.str []]) hlt
  simp only [cs] at hs hg
  simp -implicitDefEqProofs (disch:=first|exact dd|fail)[Try.f6,hlt,hs,hg,fillTo_len,ABr,AGd]
  exact ih (i + 1) (by omega) (by omega)
 ·obtain rfl:i=xs.length:=by omega
  simp -implicitDefEqProofs (disch:=first|exact dd|fail)[Try.f6,fillTo_len,fillTo_end,ABr,AGd]
set_option maxHeartbeats 8000000 in
set_option maxRecDepth 4000 in
theorem laws_eqStringS (n1 n2:Option Bool) (xs ys:List Str) (hl:xs.length≤1048576) :
  Snd Try.prog 8 [.frz 1 n1 (xs.map cs), .frz 1 n2 (ys.map cs)] (.bool (decide (xs=ys))) [.unk, .unk]:=Runs.snd (M:=M) (c:=⟨2,[4,5,10,14,25],[],[]⟩) tok ks mixed Try.func8 (p := []) (by kernel_rfl) (by rfl) (by rfl) <| by
 simp -implicitDefEqProofs (disch:=first|exact dd|fail)[Try.f8,ABr,AGd]
 refine ⟨fun h=>by rintro rfl;exact h rfl,fun h => ?_⟩
 refine AL_ind (fun i=>xs.length - i) (fun i=>⟨[(0, .frz 1 n1 (xs.map cs)),(1, .frz 1 n2 (ys.map cs)),(4, .bool false),(5, .int .i64 i)],[],false⟩)
  (fun i=>i≤xs.length∧xs.take i=ys.take i) 0 rfl ⟨by omega,rfl⟩ ?_
 rintro i n ⟨hi,he⟩ ih
 rcases Nat.lt_or_ge i xs.length with hlt | hge
 ·have hlt':i < ys.length:=by omega
  simp -implicitDefEqProofs (disch:=first|exact dd|fail)[Try.f8,hlt,hlt',ABr,AGd]
  refine ⟨fun h1=>by rintro rfl;exact h1 rfl,fun h1 => ?_⟩
  exact ih (i + 1) ⟨by omega,take_step hlt hlt' he h1⟩ (by omega)
 ·obtain rfl:i=xs.length:=by omega
  simp -implicitDefEqProofs (disch:=first|exact dd|fail)[Try.f8,ABr,AGd]
  exact take_all (by omega) he
def dgs (k:Int) (o:Str):Str:=if h:0 < k then dgs (k / 10) (UInt8.ofNat (48 + k % 10).toNat :: o) else o
 termination_by k.toNat
 decreasing_by omega
def markT (k:Int):Str:=if k≤0 then [109,48] else 109 :: dgs k []
abbrev mLString (xs:List Str) (k:Int):List Str:=mkL (fun _ k=>markT k) (fun _=>1) xs k
abbrev nLString (xs:List Str):Nat:=wList (fun _=>1) xs
end Go.Proofs.Ytpdpcmgdfjpckaa
