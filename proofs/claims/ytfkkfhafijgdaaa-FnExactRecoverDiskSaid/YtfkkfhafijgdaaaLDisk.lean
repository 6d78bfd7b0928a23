import Derived.Test.YtfkkfhafijgdaaaLA
namespace Go.Proofs.Ytfkkfhafijgdaaa
open Go.Fw
set_option linter.unusedVariables false
set_option linter.unusedSimpArgs false
structure WfWrite (x:DWrite):Prop where
 hl_data:x.data.length≤maxLen
def wWrite (x:DWrite):Nat:=x.data.length
set_option maxHeartbeats 8000000 in
set_option maxRecDepth 4000 in
theorem laws_szWrite (x:DWrite) (n:Int) (h0:0≤n) (h1:n≤1048576) (hw:WfWrite x) :
  Snd Try.prog 132 [.agg [.int .i64 x.sec, .str x.data], .int .i64 n] (.int .i64 (szR (wWrite x) n)) [.unk, .unk]:=Runs.snd (M:=M) (c:=⟨2,[2,4,11],[],[]⟩) tok ks mixed Try.func132 (p := []) (by kernel_rfl) (by rfl) (by rfl) <| by
 have g_data:=hw.hl_data
 unfold maxLen at g_data
 have w1:szR (wWrite x) n=_:=(rfl:_=szR (x.data.length) n)
 simp -implicitDefEqProofs (disch:=first|exact dd|fail)[Try.f132,ABr,AGd]
 refine ⟨fun h=>by rw [w1,szR,if_pos (by omega)],fun h=>by rw [w1,szR,if_neg (by omega)]⟩
def wLWrite (xs:List DWrite):Nat:=xs.length + wList wWrite xs
set_option maxHeartbeats 8000000 in
set_option maxRecDepth 4000 in
theorem laws_szWriteS (nl:Option Bool) (xs:List DWrite) (l:Int) (h0:0≤l) (h1:l≤1048576) (hl:xs.length≤maxLen) (hx:∀ x ∈ xs,WfWrite x) :
  Snd Try.prog 77 [.frz 2 nl (xs.map cWrite), .int .i64 l] (.int .i64 (szR (wLWrite xs) l)) [.unk, .unk]:=Runs.snd (M:=M) (c:=⟨2,[4,5,11,15,25],[],[]⟩) tok ks mixed Try.func77 (p := []) (by kernel_rfl) (by rfl) (by rfl) <| by
 unfold maxLen at hl
 have hw:szR (wLWrite xs) l=if l - xs.length < 0 then -1 else szR (wList wWrite xs) (l - xs.length):=szR_step _ _ _
 simp -implicitDefEqProofs (disch:=first|exact dd|fail)[Try.f77,ABr,AGd]
 refine ⟨fun h=>by rw [hw,if_pos h],fun h => ?_⟩
 rw [if_neg (by omega)] at hw
 refine AL_ind (ι:=Nat × Int) (fun x=>xs.length - x.1) (fun x=>⟨[(0, .frz 2 nl (xs.map cWrite)),(1, .int .i64 x.2),(4, .int .i64 0),(5, .int .i64 x.1)],[],false⟩)
  (fun x=>x.1≤xs.length∧0≤x.2∧x.2≤1048576∧szR (wList wWrite (xs.drop x.1)) x.2=szR (wLWrite xs) l) (0,l - xs.length) rfl ⟨by simp,by omega,by omega,hw.symm⟩ ?_
 rintro ⟨i,a⟩ n ⟨hi,ha0,ha1,hr⟩ ih
 simp only at hi ha0 ha1 hr ⊢
 rcases Nat.lt_or_ge i xs.length with hlt | hge
 ·have hxi:=hx xs[i] (List.getElem_mem hlt)
  rw [wList_drop _ hlt,szR_step] at hr
  simp -implicitDefEqProofs (disch:=first|exact dd|fail)[Try.f77,hlt,cWrite,ABr,AGd]
  refine AC_snd (laws_szWrite  xs[i] _ (by omega) (by omega) hxi) ?_
  simp -implicitDefEqProofs (disch:=first|exact dd|fail)[Try.f77,hlt,cWrite,ABr,AGd]
  refine ⟨fun h=>by rw [←hr,if_pos (szR_lt ha0 h)],fun h => ?_⟩
  obtain ⟨e1,h'⟩:=szR_ge h
  rw [if_neg (by omega)] at hr
  rw [e1]
  exact ih (i + 1,a - wWrite xs[i]) ⟨by simp only;omega,by simp only;omega,by simp only;omega,hr⟩ (by simp only;omega)
 ·obtain rfl:i=xs.length:=by omega
  simp -implicitDefEqProofs (disch:=first|exact dd|fail)[Try.f77,ABr,AGd]
  rw [←hr,List.drop_length,wList,szR_zero ha0]
set_option maxHeartbeats 8000000 in
set_option maxRecDepth 4000 in
theorem laws_toWrite (x:DWrite) :
  Snd Try.prog 138 [.agg [.int .i64 x.sec, .str x.data]] (.agg [.int .i64 x.sec, .str x.data]) [.unk]:=Runs.snd (M:=M) (c:=⟨1,[1,2,3],[],[]⟩) tok ks mixed Try.func138 (p := []) (by kernel_rfl) (by rfl) (by rfl) <| by
 simp -implicitDefEqProofs (disch:=first|exact dd|fail)[Try.f138,ABr,AGd]
set_option maxHeartbeats 8000000 in
set_option maxRecDepth 4000 in
theorem laws_toWriteS (nl:Option Bool) (xs:List DWrite) (hl:xs.length≤1048576) :
  Snd Try.prog 81 [.frz 2 nl (xs.map cWrite)] (.row 2 (xs.map cWrite)) [.unk]:=Runs.snd (M:=M) (c:=⟨1,[2,3,4,11],[],[]⟩) tok ks mixed Try.func81 (p := []) (by kernel_rfl) (by rfl) (by rfl) <| by
 have hl':(xs.length:Int)≤1073741824:=by omega
 simp -implicitDefEqProofs (disch:=first|exact dd|fail)[Try.f81,LIM,hl',ABr,AGd]
 rw [fillTo_zero (c:=cWrite)]
 refine AL_ind (fun i=>xs.length - i) (fun i=>⟨[(0, .frz 2 nl (xs.map cWrite)),(2, .frz 0 (some true) []),(3, .ref 384 none 2 0 xs.length (some false)),(4, .int .i64 i)],[(384, .row 2 (fillTo cWrite [.int .i64 0, .str []] xs i) [])],false⟩)
  (fun i=>i≤xs.length) 0 rfl (by omega) ?_
 intro i n hi ih
 rcases Nat.lt_or_ge i xs.length with hlt | hge
 ·have hs:=fillTo_set (c:=cWrite) (z := [.int .i64 0, .str []]) hlt
  have hg:=fillTo_get (c:=cWrite) (z := [.int .i64 0, .str []]) hlt
  simp only [cWrite] at hs hg
  simp -implicitDefEqProofs (disch:=first|exact dd|fail)[Try.f81,hlt,hs,hg,fillTo_len,cWrite,ABr,AGd]
  refine AC_snd (laws_toWrite  _) ?_
  simp -implicitDefEqProofs (disch:=first|exact dd|fail)[Try.f81,hlt,hs,hg,fillTo_len,cWrite,ABr,AGd]
  exact ih (i + 1) (by omega) (by omega)
 ·obtain rfl:i=xs.length:=by omega
  simp -implicitDefEqProofs (disch:=first|exact dd|fail)[Try.f81,fillTo_len,fillTo_end,ABr,AGd]
set_option maxHeartbeats 8000000 in
set_option maxRecDepth 4000 in
theorem laws_eqWrite (x y:DWrite) :
  Snd Try.prog 139 [.agg [.int .i64 x.sec, .str x.data], .agg [.int .i64 y.sec, .str y.data]] (.bool (decide (x=y))) [.unk, .unk]:=Runs.snd (M:=M) (c:=⟨2,[2,3,4,9,14],[],[]⟩) tok ks mixed Try.func139 (p := []) (by kernel_rfl) (by rfl) (by rfl) <| by
 simp -implicitDefEqProofs (disch:=first|exact dd|fail)[Try.f139,ABr,AGd]
 refine ⟨fun h=>by (rintro rfl;first | exact h rfl | simp at h),fun _ => ?_⟩
 refine ⟨fun h=>by (rintro rfl;first | exact h rfl | simp at h),fun _ => ?_⟩
 cases x
 cases y
 simp_all
set_option maxHeartbeats 8000000 in
set_option maxRecDepth 4000 in
theorem laws_eqWriteS (n1 n2:Option Bool) (xs ys:List DWrite) (hl:xs.length≤1048576) :
  Snd Try.prog 84 [.frz 2 n1 (xs.map cWrite), .frz 2 n2 (ys.map cWrite)] (.bool (decide (xs=ys))) [.unk, .unk]:=Runs.snd (M:=M) (c:=⟨2,[4,5,10,14,26],[],[]⟩) tok ks mixed Try.func84 (p := []) (by kernel_rfl) (by rfl) (by rfl) <| by
 simp -implicitDefEqProofs (disch:=first|exact dd|fail)[Try.f84,ABr,AGd]
 refine ⟨fun h=>by rintro rfl;exact h rfl,fun h => ?_⟩
 refine AL_ind (fun i=>xs.length - i) (fun i=>⟨[(0, .frz 2 n1 (xs.map cWrite)),(1, .frz 2 n2 (ys.map cWrite)),(4, .bool false),(5, .int .i64 i)],[],false⟩)
  (fun i=>i≤xs.length∧xs.take i=ys.take i) 0 rfl ⟨by omega,rfl⟩ ?_
 rintro i n ⟨hi,he⟩ ih
 rcases Nat.lt_or_ge i xs.length with hlt | hge
 ·have hlt':i < ys.length:=by omega
  simp -implicitDefEqProofs (disch:=first|exact dd|fail)[Try.f84,hlt,hlt',cWrite,ABr,AGd]
  refine AC_snd (laws_eqWrite   _ _) ?_
  simp -implicitDefEqProofs (disch:=first|exact dd|fail)[Try.f84,hlt,hlt',cWrite,ABr,AGd]
  refine ⟨fun h1=>by rintro rfl;exact h1 rfl,fun h1 => ?_⟩
  exact ih (i + 1) ⟨by omega,take_step hlt hlt' he h1⟩ (by omega)
 ·obtain rfl:i=xs.length:=by omega
  simp -implicitDefEqProofs (disch:=first|exact dd|fail)[Try.f84,ABr,AGd]
  exact take_all (by omega) he
def mkWrite (x:DWrite) (k:Int):DWrite:={ sec:=k,data:=markT (k + 1) }
def nmWrite (x:DWrite):Nat:=2
abbrev mLWrite (xs:List DWrite) (k:Int):List DWrite:=mkL mkWrite nmWrite xs k
abbrev nLWrite (xs:List DWrite):Nat:=wList nmWrite xs
set_option maxHeartbeats 8000000 in
set_option maxRecDepth 4000 in
theorem laws_markWriteS (xs:List DWrite) (k:Int) (hl:xs.length≤1048576) (hk:0≤k) (hn:k + nLWrite xs≤16777216) :
  Snd Try.prog 86 [.row 2 (xs.map cWrite), .int .i64 k] (.int .i64 (k + nLWrite xs)) [.row 2 ((mLWrite xs k).map cWrite), .unk]:=Runs.snd (M:=M) (c:=⟨2,[4,5,9],[],[]⟩) tok ks mixed Try.func86 (p := [0]) (by kernel_rfl) (by rfl) (by rfl) <| by
 have hml:(mLWrite xs k).length=xs.length:=mkL_len
 simp -implicitDefEqProofs (disch:=first|exact dd|fail)[Try.f86,ABr,AGd]
 rw [patch_zero (c:=cWrite) (ms:=mLWrite xs k) (xs:=xs)]
 refine AL_ind (ι:=Nat × Int) (fun x=>xs.length - x.1) (fun x=>⟨[(0, .ref 0 none 2 0 xs.length none),(1, .int .i64 x.2),(4, .int .i64 0),(5, .int .i64 x.1)],[(0, .row 2 (patch cWrite (mLWrite xs k) xs x.1) [])],false⟩)
  (fun x=>x.1≤xs.length∧x.2=k + wList nmWrite (xs.take x.1)) (0,k) rfl ⟨by simp,by simp [wList]⟩ ?_
 rintro ⟨i,a⟩ n ⟨hi,ha⟩ ih
 simp only at hi ha ⊢
 rcases Nat.lt_or_ge i xs.length with hlt | hge
 ·have hw:=wList_take (n:=nmWrite) hlt
  have hle:=wList_take_le (n:=nmWrite) (xs:=xs) (i:=i + 1)
  have hpl:=patch_len (c:=cWrite) hml hi
  have hg:=patch_get (c:=cWrite) hml hlt
  have hpi:=Nat.lt_of_lt_of_eq hlt hpl.symm
  rw [List.getElem?_eq_getElem hpi] at hg
  have hg:=Option.some.inj hg
  have hs:=patch_put (c:=cWrite) hml hlt (mkL_get (f:=mkWrite) hlt)
  rw [←ha] at hs
  simp only [cWrite,mkWrite,nmWrite] at hg hs hw
  simp only [nLWrite] at hn
  simp -implicitDefEqProofs (disch:=first|exact dd|fail)[Try.f86,hlt,hg,hs,patch_len hml,List.set_set,cWrite,ABr,AGd]
  refine AC_snd (laws_markText _ (by omega)) ?_
  simp -implicitDefEqProofs (disch:=first|exact dd|fail)[Try.f86,hlt,hg,hs,patch_len hml,List.set_set,cWrite,ABr,AGd]
  refine ih (i + 1,_) ⟨by simp only;omega,?_⟩ (by simp only;omega)
  simp only
  omega
 ·obtain rfl:i=xs.length:=by omega
  simp -implicitDefEqProofs (disch:=first|exact dd|fail)[Try.f86,patch_len hml,patch_end hml,hml,ABr,AGd]
  rw [ha,List.take_length]
set_option maxHeartbeats 8000000 in
set_option maxRecDepth 4000 in
theorem laws_heldWriteS (nl:Option Bool) (xs:List DWrite) (k:Int) (hl:xs.length≤1048576) (hk:0≤k) (hn:k + nLWrite xs≤16777216) :
  Snd Try.prog 88 [.frz 2 nl ((mLWrite xs k).map cWrite), .int .i64 k] (.int .i64 (k + nLWrite xs)) [.unk, .unk]:=Runs.snd (M:=M) (c:=⟨2,[4,5,9,18,28],[],[]⟩) tok ks mixed Try.func88 (p := []) (by kernel_rfl) (by rfl) (by rfl) <| by
 have hml:(mLWrite xs k).length=xs.length:=mkL_len
 simp -implicitDefEqProofs (disch:=first|exact dd|fail)[Try.f88,hml,ABr,AGd]
 refine AL_ind (ι:=Nat × Int) (fun x=>xs.length - x.1) (fun x=>⟨[(0, .frz 2 nl ((mLWrite xs k).map cWrite)),(1, .int .i64 x.2),(4, .int .i64 0),(5, .int .i64 x.1)],[],false⟩)
  (fun x=>x.1≤xs.length∧x.2=k + wList nmWrite (xs.take x.1)) (0,k) rfl ⟨by simp,by simp [wList]⟩ ?_
 rintro ⟨i,a⟩ n ⟨hi,ha⟩ ih
 simp only at hi ha ⊢
 rcases Nat.lt_or_ge i xs.length with hlt | hge
 ·have hw:=wList_take (n:=nmWrite) hlt
  have hle:=wList_take_le (n:=nmWrite) (xs:=xs) (i:=i + 1)
  have hg:=mkL_get (f:=mkWrite) (n:=nmWrite) (k:=k) hlt
  rw [←ha] at hg
  have hlt':i < (mLWrite xs k).length:=by omega
  rw [List.getElem?_eq_getElem hlt'] at hg
  have hg:=Option.some.inj hg
  simp only [mkWrite,nmWrite] at hg hw
  simp only [nLWrite] at hn
  (try simp -implicitDefEqProofs (disch:=first|exact dd|fail)[Try.f88,hlt,hlt',hg,hml,cWrite]);(repeat'((with_reducible first|(refine Br.out ?_ ?_<;>intro h<;>(try(have h0:=h;simp only[bH]at h)))|refine AC_snd (laws_markText _ (by omega)) ?_|fail)<;>(try simp -implicitDefEqProofs (disch:=first|exact dd|fail)[Try.f88,hlt,hlt',hg,hml,cWrite])))
  all_goals try omega
  refine ih (i + 1,_) ⟨by simp only;omega,?_⟩ (by simp only;omega)
  simp only
  omega
 ·obtain rfl:i=xs.length:=by omega
  simp -implicitDefEqProofs (disch:=first|exact dd|fail)[Try.f88,hml,ABr,AGd]
  rw [ha,List.take_length]
structure WfDisk (x:DDisk):Prop where
 hl_secs:x.secs.length≤maxLen
 hx_secs:∀ y ∈ x.secs,y.length≤maxLen
 hl_pend:x.pend.length≤maxLen
 hx_pend:∀ y ∈ x.pend,WfWrite y
structure SmDisk (x:DDisk):Prop where
 hl_secs:x.secs.length≤1048576
 hl_pend:x.pend.length≤1048576
def wDisk (x:DDisk):Nat:=wLString x.secs + wLWrite x.pend
theorem smDisk_of {x:DDisk} (h:wDisk x≤1048576):SmDisk x:=by
 simp only [wDisk,wLString,wLWrite] at h
 exact ⟨by omega,by omega⟩
set_option maxHeartbeats 8000000 in
set_option maxRecDepth 4000 in
theorem laws_szDisk (n0 n1:Option Bool) (x:DDisk) (n:Int) (h0:0≤n) (h1:n≤1048576) (hw:WfDisk x) :
  Snd Try.prog 27 [.agg [.frz 1 n0 (x.secs.map cs), .frz 2 n1 (x.pend.map cWrite)], .int .i64 n] (.int .i64 (szR (wDisk x) n)) [.unk, .unk]:=Runs.snd (M:=M) (c:=⟨2,[2,4,10,16],[],[]⟩) tok ks mixed Try.func27 (p := []) (by kernel_rfl) (by rfl) (by rfl) <| by
 have w1:szR (wDisk x) n=_:=szR_step _ _ _
 simp -implicitDefEqProofs (disch:=first|exact dd|fail)[Try.f27,ABr,AGd]
 refine AC_snd (laws_szStringS _ _ _ (by omega) (by omega) hw.hl_secs hw.hx_secs) ?_
 simp -implicitDefEqProofs (disch:=first|exact dd|fail)[Try.f27,ABr,AGd]
 refine ⟨fun h=>by rw [w1,if_pos (szR_lt (by omega) h)],fun h => ?_⟩
 obtain ⟨e1,h'⟩:=szR_ge h
 rw [if_neg (by omega)] at w1
 rw [e1]
 refine AC_snd (laws_szWriteS _ _ _ (by omega) (by omega) hw.hl_pend hw.hx_pend) ?_
 simp -implicitDefEqProofs (disch:=first|exact dd|fail)[Try.f27,w1,ABr,AGd]
 exact fun h=>szR_m1 (by omega) h
set_option maxHeartbeats 8000000 in
set_option maxRecDepth 4000 in
theorem laws_toDisk (n0 n1:Option Bool) (x:DDisk) (hs:SmDisk x) :
  Snd Try.prog 29 [.agg [.frz 1 n0 (x.secs.map cs), .frz 2 n1 (x.pend.map cWrite)]] (.agg [.row 1 (x.secs.map cs), .row 2 (x.pend.map cWrite)]) [.unk]:=Runs.snd (M:=M) (c:=⟨1,[1,2,3],[],[]⟩) tok ks mixed Try.func29 (p := []) (by kernel_rfl) (by rfl) (by rfl) <| by
 simp -implicitDefEqProofs (disch:=first|exact dd|fail)[Try.f29,ABr,AGd]
 refine AC_snd (laws_toStringS _ _ hs.hl_secs) ?_
 simp -implicitDefEqProofs (disch:=first|exact dd|fail)[Try.f29,ABr,AGd]
 refine AC_snd (laws_toWriteS _ _ hs.hl_pend) ?_
 simp -implicitDefEqProofs (disch:=first|exact dd|fail)[Try.f29,ABr,AGd]
set_option maxHeartbeats 8000000 in
set_option maxRecDepth 4000 in
theorem laws_eqDisk (n0 n1:Option Bool) (n2 n3:Option Bool) (x y:DDisk) (hs:SmDisk x) :
  Snd Try.prog 31 [.agg [.frz 1 n0 (x.secs.map cs), .frz 2 n1 (x.pend.map cWrite)], .agg [.frz 1 n2 (y.secs.map cs), .frz 2 n3 (y.pend.map cWrite)]] (.bool (decide (x=y))) [.unk, .unk]:=Runs.snd (M:=M) (c:=⟨2,[2,3,4,10,16],[],[]⟩) tok ks mixed Try.func31 (p := []) (by kernel_rfl) (by rfl) (by rfl) <| by
 simp -implicitDefEqProofs (disch:=first|exact dd|fail)[Try.f31,ABr,AGd]
 refine AC_snd (laws_eqStringS _ _ _ _ hs.hl_secs) ?_
 simp -implicitDefEqProofs (disch:=first|exact dd|fail)[Try.f31,ABr,AGd]
 refine ⟨fun h=>by (rintro rfl;first | exact h rfl | simp at h),fun _ => ?_⟩
 refine AC_snd (laws_eqWriteS _ _ _ _ hs.hl_pend) ?_
 simp -implicitDefEqProofs (disch:=first|exact dd|fail)[Try.f31,ABr,AGd]
 refine ⟨fun h=>by (rintro rfl;first | exact h rfl | simp at h),fun _ => ?_⟩
 cases x
 cases y
 simp_all
abbrev mtDisk (x:DDisk) (k:Int):DDisk:={ x with secs:=mLString x.secs k,pend:=mLWrite x.pend (k + ((nLString x.secs:Nat):Int)) }
abbrev ntDisk (x:DDisk):Nat:=nLString x.secs + nLWrite x.pend
set_option maxHeartbeats 8000000 in
set_option maxRecDepth 4000 in
theorem laws_markDisk (x:DDisk) (k:Int) (hs:SmDisk x) (hk:0≤k) (hn:k + ntDisk x≤16777216) :
  Snd Try.prog 32 [.agg [.row 1 (x.secs.map cs), .row 2 (x.pend.map cWrite)], .int .i64 k] (.int .i64 (k + ntDisk x)) [.agg [.row 1 ((mtDisk x k).secs.map cs), .row 2 ((mtDisk x k).pend.map cWrite)], .unk]:=Runs.snd (M:=M) (c:=⟨2,[2,4],[],[]⟩) tok ks mixed Try.func32 (p := [0]) (by kernel_rfl) (by rfl) (by rfl) <| by
 simp only [ntDisk] at hn
 simp -implicitDefEqProofs (disch:=first|exact dd|fail)[Try.f32,ABr,AGd]
 refine AC_snd (laws_markStringS _ _ hs.hl_secs (by omega) (by omega)) ?_
 simp -implicitDefEqProofs (disch:=first|exact dd|fail)[Try.f32,mkL_len,ABr,AGd]
 refine AC_snd (laws_markWriteS _ _ hs.hl_pend (by omega) (by omega)) ?_
 simp -implicitDefEqProofs (disch:=first|exact dd|fail)[Try.f32,mkL_len,ABr,AGd]
 all_goals omega
set_option maxHeartbeats 8000000 in
set_option maxRecDepth 4000 in
theorem laws_heldDisk (n0 n1:Option Bool) (x:DDisk) (k:Int) (hs:SmDisk x) (hk:0≤k) (hn:k + ntDisk x≤16777216) :
  Snd Try.prog 33 [.agg [.frz 1 n0 ((mtDisk x k).secs.map cs), .frz 2 n1 ((mtDisk x k).pend.map cWrite)], .int .i64 k] (.int .i64 (k + ntDisk x)) [.unk, .unk]:=Runs.snd (M:=M) (c:=⟨2,[2,4,10,16],[],[]⟩) tok ks mixed Try.func33 (p := []) (by kernel_rfl) (by rfl) (by rfl) <| by
 simp only [ntDisk] at hn
 simp -implicitDefEqProofs (disch:=first|exact dd|fail)[Try.f33,ABr,AGd]
 refine AC_snd (laws_heldStringS _ _ _ hs.hl_secs (by omega) (by omega)) ?_
 simp -implicitDefEqProofs (disch:=first|exact dd|fail)[Try.f33,ABr,AGd]
 refine ⟨fun h=>by omega,fun h => ?_⟩
 refine AC_snd (laws_heldWriteS _ _ _ hs.hl_pend (by omega) (by omega)) ?_
 simp -implicitDefEqProofs (disch:=first|exact dd|fail)[Try.f33,ABr,AGd]
 first | omega | exact ⟨fun h=>by omega,fun h=>by omega⟩ | exact fun h=>by omega
end Go.Proofs.Ytfkkfhafijgdaaa
