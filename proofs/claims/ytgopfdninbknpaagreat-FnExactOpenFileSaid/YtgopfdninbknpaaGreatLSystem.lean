import Derived.Test.YtgopfdninbknpaaGreatLCred
namespace Go.Proofs.YtgopfdninbknpaaGreat
open Go.Fw
set_option linter.unusedVariables false
set_option linter.unusedSimpArgs false
def wLCred (xs:List DCred):Nat:=xs.length + wList wCred xs
def mkCred (x:DCred) (k:Int):DCred:={ uid:=k,gid:=(k + 1),groups:=mLInt x.groups ((k + 1) + 1) }
def nmCred (x:DCred):Nat:=2 + nLInt x.groups
abbrev mLCred (xs:List DCred) (k:Int):List DCred:=mkL mkCred nmCred xs k
abbrev nLCred (xs:List DCred):Nat:=wList nmCred xs
set_option maxHeartbeats 8000000 in
set_option maxRecDepth 4000 in
theorem laws_toOpen (x:DOpen) :
  Snd Tryz.prog 272 [.agg [.int .i64 x.inode, .int .i64 x.pos, .int .i64 x.flags]] (.agg [.int .i64 x.inode, .int .i64 x.pos, .int .i64 x.flags]) [.unk]:=Runs.snd (M:=M) (c:=⟨1,[1,2,3],[],[]⟩) tok ks mixed Tryz.func272 (p := []) (by kernel_rfl) (by rfl) (by rfl) <| by
 simp -implicitDefEqProofs (disch:=first|exact dd|fail)[Tryz.f272,ABr,AGd]
set_option maxHeartbeats 8000000 in
set_option maxRecDepth 4000 in
theorem laws_eqOpen (x y:DOpen) :
  Snd Tryz.prog 273 [.agg [.int .i64 x.inode, .int .i64 x.pos, .int .i64 x.flags], .agg [.int .i64 y.inode, .int .i64 y.pos, .int .i64 y.flags]] (.bool (decide (x=y))) [.unk, .unk]:=Runs.snd (M:=M) (c:=⟨2,[2,3,4,9,14,19],[],[]⟩) tok ks mixed Tryz.func273 (p := []) (by kernel_rfl) (by rfl) (by rfl) <| by
 simp -implicitDefEqProofs (disch:=first|exact dd|fail)[Tryz.f273,ABr,AGd]
 refine ⟨fun h=>by (rintro rfl;first | exact h rfl | simp at h),fun _ => ?_⟩
 refine ⟨fun h=>by (rintro rfl;first | exact h rfl | simp at h),fun _ => ?_⟩
 refine ⟨fun h=>by (rintro rfl;first | exact h rfl | simp at h),fun _ => ?_⟩
 cases x
 cases y
 simp_all
set_option maxHeartbeats 8000000 in
set_option maxRecDepth 4000 in
theorem laws_szOpenS (nl:Option Bool) (l:List DOpen) (n:Int) (h0:0≤n) (h1:n≤1048576) (hl:l.length≤maxLen) :
  Snd Tryz.prog 253 [.frz 3 nl (l.map cOpen), .int .i64 n] (.int .i64 (szR l.length n)) [.unk, .unk]:=Runs.snd (M:=M) (c:=⟨2,[4,10],[],[]⟩) tok ks mixed Tryz.func253 (p := []) (by kernel_rfl) (by rfl) (by rfl) <| by
 unfold maxLen at *
 simp -implicitDefEqProofs (disch:=first|exact dd|fail)[Tryz.f253,ABr,AGd]
 exact ⟨fun h=>by rw [szR,if_pos (by omega)],fun h=>by rw [szR,if_neg (by omega)]⟩
set_option maxHeartbeats 8000000 in
set_option maxRecDepth 4000 in
theorem laws_toOpenS (nl:Option Bool) (xs:List DOpen) (hl:xs.length≤1048576) :
  Snd Tryz.prog 254 [.frz 3 nl (xs.map cOpen)] (.row 3 (xs.map cOpen)) [.unk]:=Runs.snd (M:=M) (c:=⟨1,[2,3,4,11],[],[]⟩) tok ks mixed Tryz.func254 (p := []) (by kernel_rfl) (by rfl) (by rfl) <| by
 have hl':(xs.length:Int)≤1073741824:=by omega
 simp -implicitDefEqProofs (disch:=first|exact dd|fail)[Tryz.f254,LIM,hl',ABr,AGd]
 rw [fillTo_zero (c:=cOpen)]
 refine AL_ind (fun i=>xs.length - i) (fun i=>⟨[(0, .frz 3 nl (xs.map cOpen)),(2, .frz 0 (some true) []),(3, .ref 384 none 3 0 xs.length (some false)),(4, .int .i64 i)],[(384, .row 3 (fillTo cOpen [.int .i64 0, .int .i64 0, .int .i64 0] xs i) [])],false⟩)
  (fun i=>i≤xs.length) 0 rfl (by omega) ?_
 intro i n hi ih
 rcases Nat.lt_or_ge i xs.length with hlt | hge
 ·have hs:=fillTo_set (c:=cOpen) (z := [.int .i64 0, .int .i64 0, .int .i64 0]) hlt
  have hg:=fillTo_get (c:=cOpen) (z := [.int .i64 0, .int .i64 0, .int .i64 0]) hlt
  simp only [cOpen] at hs hg
  simp -implicitDefEqProofs (disch:=first|exact dd|fail)[Tryz.f254,hlt,hs,hg,fillTo_len,cOpen,ABr,AGd]
  refine AC_snd (laws_toOpen  _) ?_
  simp -implicitDefEqProofs (disch:=first|exact dd|fail)[Tryz.f254,hlt,hs,hg,fillTo_len,cOpen,ABr,AGd]
  exact ih (i + 1) (by omega) (by omega)
 ·obtain rfl:i=xs.length:=by omega
  simp -implicitDefEqProofs (disch:=first|exact dd|fail)[Tryz.f254,fillTo_len,fillTo_end,ABr,AGd]
set_option maxHeartbeats 8000000 in
set_option maxRecDepth 4000 in
theorem laws_eqOpenS (n1 n2:Option Bool) (xs ys:List DOpen) (hl:xs.length≤1048576) :
  Snd Tryz.prog 255 [.frz 3 n1 (xs.map cOpen), .frz 3 n2 (ys.map cOpen)] (.bool (decide (xs=ys))) [.unk, .unk]:=Runs.snd (M:=M) (c:=⟨2,[4,5,10,14,26],[],[]⟩) tok ks mixed Tryz.func255 (p := []) (by kernel_rfl) (by rfl) (by rfl) <| by
 simp -implicitDefEqProofs (disch:=first|exact dd|fail)[Tryz.f255,ABr,AGd]
 refine ⟨fun h=>by rintro rfl;exact h rfl,fun h => ?_⟩
 refine AL_ind (fun i=>xs.length - i) (fun i=>⟨[(0, .frz 3 n1 (xs.map cOpen)),(1, .frz 3 n2 (ys.map cOpen)),(4, .bool false),(5, .int .i64 i)],[],false⟩)
  (fun i=>i≤xs.length∧xs.take i=ys.take i) 0 rfl ⟨by omega,rfl⟩ ?_
 rintro i n ⟨hi,he⟩ ih
 rcases Nat.lt_or_ge i xs.length with hlt | hge
 ·have hlt':i < ys.length:=by omega
  simp -implicitDefEqProofs (disch:=first|exact dd|fail)[Tryz.f255,hlt,hlt',cOpen,ABr,AGd]
  refine AC_snd (laws_eqOpen   _ _) ?_
  simp -implicitDefEqProofs (disch:=first|exact dd|fail)[Tryz.f255,hlt,hlt',cOpen,ABr,AGd]
  refine ⟨fun h1=>by rintro rfl;exact h1 rfl,fun h1 => ?_⟩
  exact ih (i + 1) ⟨by omega,take_step hlt hlt' he h1⟩ (by omega)
 ·obtain rfl:i=xs.length:=by omega
  simp -implicitDefEqProofs (disch:=first|exact dd|fail)[Tryz.f255,ABr,AGd]
  exact take_all (by omega) he
def mkOpen (x:DOpen) (k:Int):DOpen:={ inode:=k,pos:=(k + 1),flags:=((k + 1) + 1) }
def nmOpen (x:DOpen):Nat:=3
abbrev mLOpen (xs:List DOpen) (k:Int):List DOpen:=mkL mkOpen nmOpen xs k
abbrev nLOpen (xs:List DOpen):Nat:=wList nmOpen xs
set_option maxHeartbeats 8000000 in
set_option maxRecDepth 4000 in
theorem laws_markOpenS (xs:List DOpen) (k:Int) (hl:xs.length≤1048576) (hk:0≤k) (hn:k + nLOpen xs≤16777216) :
  Snd Tryz.prog 204 [.row 3 (xs.map cOpen), .int .i64 k] (.int .i64 (k + nLOpen xs)) [.row 3 ((mLOpen xs k).map cOpen), .unk]:=Runs.snd (M:=M) (c:=⟨2,[4,5,9],[],[]⟩) tok ks mixed Tryz.func204 (p := [0]) (by kernel_rfl) (by rfl) (by rfl) <| by
 have hml:(mLOpen xs k).length=xs.length:=mkL_len
 simp -implicitDefEqProofs (disch:=first|exact dd|fail)[Tryz.f204,ABr,AGd]
 rw [patch_zero (c:=cOpen) (ms:=mLOpen xs k) (xs:=xs)]
 refine AL_ind (ι:=Nat × Int) (fun x=>xs.length - x.1) (fun x=>⟨[(0, .ref 0 none 3 0 xs.length none),(1, .int .i64 x.2),(4, .int .i64 0),(5, .int .i64 x.1)],[(0, .row 3 (patch cOpen (mLOpen xs k) xs x.1) [])],false⟩)
  (fun x=>x.1≤xs.length∧x.2=k + wList nmOpen (xs.take x.1)) (0,k) rfl ⟨by simp,by simp [wList]⟩ ?_
 rintro ⟨i,a⟩ n ⟨hi,ha⟩ ih
 simp only at hi ha ⊢
 rcases Nat.lt_or_ge i xs.length with hlt | hge
 ·have hw:=wList_take (n:=nmOpen) hlt
  have hle:=wList_take_le (n:=nmOpen) (xs:=xs) (i:=i + 1)
  have hpl:=patch_len (c:=cOpen) hml hi
  have hg:=patch_get (c:=cOpen) hml hlt
  have hpi:=Nat.lt_of_lt_of_eq hlt hpl.symm
  rw [List.getElem?_eq_getElem hpi] at hg
  have hg:=Option.some.inj hg
  have hs:=patch_put (c:=cOpen) hml hlt (mkL_get (f:=mkOpen) hlt)
  rw [←ha] at hs
  simp only [cOpen,mkOpen,nmOpen] at hg hs hw
  simp only [nLOpen] at hn
  simp -implicitDefEqProofs (disch:=first|exact dd|fail)[Tryz.f204,hlt,hg,hs,patch_len hml,List.set_set,cOpen,ABr,AGd]
  refine ih (i + 1,_) ⟨by simp only;omega,?_⟩ (by simp only;omega)
  simp only
  omega
 ·obtain rfl:i=xs.length:=by omega
  simp -implicitDefEqProofs (disch:=first|exact dd|fail)[Tryz.f204,patch_len hml,patch_end hml,hml,ABr,AGd]
  rw [ha,List.take_length]
set_option maxHeartbeats 8000000 in
set_option maxRecDepth 4000 in
theorem laws_heldOpenS (nl:Option Bool) (xs:List DOpen) (k:Int) (hl:xs.length≤1048576) (hk:0≤k) (hn:k + nLOpen xs≤16777216) :
  Snd Tryz.prog 205 [.frz 3 nl ((mLOpen xs k).map cOpen), .int .i64 k] (.int .i64 (k + nLOpen xs)) [.unk, .unk]:=Runs.snd (M:=M) (c:=⟨2,[4,5,9,18,27,36],[],[]⟩) tok ks mixed Tryz.func205 (p := []) (by kernel_rfl) (by rfl) (by rfl) <| by
 have hml:(mLOpen xs k).length=xs.length:=mkL_len
 simp -implicitDefEqProofs (disch:=first|exact dd|fail)[Tryz.f205,hml,ABr,AGd]
 refine AL_ind (ι:=Nat × Int) (fun x=>xs.length - x.1) (fun x=>⟨[(0, .frz 3 nl ((mLOpen xs k).map cOpen)),(1, .int .i64 x.2),(4, .int .i64 0),(5, .int .i64 x.1)],[],false⟩)
  (fun x=>x.1≤xs.length∧x.2=k + wList nmOpen (xs.take x.1)) (0,k) rfl ⟨by simp,by simp [wList]⟩ ?_
 rintro ⟨i,a⟩ n ⟨hi,ha⟩ ih
 simp only at hi ha ⊢
 rcases Nat.lt_or_ge i xs.length with hlt | hge
 ·have hw:=wList_take (n:=nmOpen) hlt
  have hle:=wList_take_le (n:=nmOpen) (xs:=xs) (i:=i + 1)
  have hg:=mkL_get (f:=mkOpen) (n:=nmOpen) (k:=k) hlt
  rw [←ha] at hg
  have hlt':i < (mLOpen xs k).length:=by omega
  rw [List.getElem?_eq_getElem hlt'] at hg
  have hg:=Option.some.inj hg
  simp only [mkOpen,nmOpen] at hg hw
  simp only [nLOpen] at hn
  (try simp -implicitDefEqProofs (disch:=first|exact dd|fail)[Tryz.f205,hlt,hlt',hg,hml,cOpen]);(repeat'((with_reducible first|(refine Br.out ?_ ?_<;>intro h<;>(try(have h0:=h;simp only[bH]at h)))|fail)<;>(try simp -implicitDefEqProofs (disch:=first|exact dd|fail)[Tryz.f205,hlt,hlt',hg,hml,cOpen])))
  all_goals try omega
  refine ih (i + 1,_) ⟨by simp only;omega,?_⟩ (by simp only;omega)
  simp only
  omega
 ·obtain rfl:i=xs.length:=by omega
  simp -implicitDefEqProofs (disch:=first|exact dd|fail)[Tryz.f205,hml,ABr,AGd]
  rw [ha,List.take_length]
structure WfProc (x:DProc):Prop where
 hs_cred:WfCred x.cred
 hl_files:x.files.length≤maxLen
structure SmProc (x:DProc):Prop where
 hs_cred:SmCred x.cred
 hl_files:x.files.length≤1048576
def wProc (x:DProc):Nat:=wCred x.cred + x.files.length
theorem smProc_of {x:DProc} (h:wProc x≤1048576):SmProc x:=by
 simp only [wProc] at h
 exact ⟨smCred_of (by omega),by omega⟩
set_option maxHeartbeats 8000000 in
set_option maxRecDepth 4000 in
theorem laws_szProc (n0 n1:Option Bool) (x:DProc) (n:Int) (h0:0≤n) (h1:n≤1048576) (hw:WfProc x) :
  Snd Tryz.prog 197 [.agg [.int .i64 x.cred.uid, .int .i64 x.cred.gid, .frz 1 n0 (x.cred.groups.map ci), .frz 3 n1 (x.files.map cOpen)], .int .i64 n] (.int .i64 (szR (wProc x) n)) [.unk, .unk]:=Runs.snd (M:=M) (c:=⟨2,[2,4,10,16],[],[]⟩) tok ks mixed Tryz.func197 (p := []) (by kernel_rfl) (by rfl) (by rfl) <| by
 have w1:szR (wProc x) n=_:=szR_step _ _ _
 simp -implicitDefEqProofs (disch:=first|exact dd|fail)[Tryz.f197,ABr,AGd]
 refine AC_snd (laws_szCred _  _ _ (by omega) (by omega) hw.hs_cred) ?_
 simp -implicitDefEqProofs (disch:=first|exact dd|fail)[Tryz.f197,ABr,AGd]
 refine ⟨fun h=>by rw [w1,if_pos (szR_lt (by omega) h)],fun h => ?_⟩
 obtain ⟨e1,h'⟩:=szR_ge h
 rw [if_neg (by omega)] at w1
 rw [e1]
 refine AC_snd (laws_szOpenS _ _ _ (by omega) (by omega) hw.hl_files) ?_
 simp -implicitDefEqProofs (disch:=first|exact dd|fail)[Tryz.f197,w1,ABr,AGd]
 exact fun h=>szR_m1 (by omega) h
set_option maxHeartbeats 8000000 in
set_option maxRecDepth 4000 in
theorem laws_toProc (n0 n1:Option Bool) (x:DProc) (hs:SmProc x) :
  Snd Tryz.prog 200 [.agg [.int .i64 x.cred.uid, .int .i64 x.cred.gid, .frz 1 n0 (x.cred.groups.map ci), .frz 3 n1 (x.files.map cOpen)]] (.agg [.int .i64 x.cred.uid, .int .i64 x.cred.gid, .row 1 (x.cred.groups.map ci), .row 3 (x.files.map cOpen)]) [.unk]:=Runs.snd (M:=M) (c:=⟨1,[1,2,3],[],[]⟩) tok ks mixed Tryz.func200 (p := []) (by kernel_rfl) (by rfl) (by rfl) <| by
 simp -implicitDefEqProofs (disch:=first|exact dd|fail)[Tryz.f200,ABr,AGd]
 refine AC_snd (laws_toCred _  _ hs.hs_cred) ?_
 simp -implicitDefEqProofs (disch:=first|exact dd|fail)[Tryz.f200,ABr,AGd]
 refine AC_snd (laws_toOpenS _ _ hs.hl_files) ?_
 simp -implicitDefEqProofs (disch:=first|exact dd|fail)[Tryz.f200,ABr,AGd]
set_option maxHeartbeats 8000000 in
set_option maxRecDepth 4000 in
theorem laws_eqProc (n0 n1:Option Bool) (n2 n3:Option Bool) (x y:DProc) (hs:SmProc x) :
  Snd Tryz.prog 203 [.agg [.int .i64 x.cred.uid, .int .i64 x.cred.gid, .frz 1 n0 (x.cred.groups.map ci), .frz 3 n1 (x.files.map cOpen)], .agg [.int .i64 y.cred.uid, .int .i64 y.cred.gid, .frz 1 n2 (y.cred.groups.map ci), .frz 3 n3 (y.files.map cOpen)]] (.bool (decide (x=y))) [.unk, .unk]:=Runs.snd (M:=M) (c:=⟨2,[2,3,4,10,16],[],[]⟩) tok ks mixed Tryz.func203 (p := []) (by kernel_rfl) (by rfl) (by rfl) <| by
 simp -implicitDefEqProofs (disch:=first|exact dd|fail)[Tryz.f203,ABr,AGd]
 refine AC_snd (laws_eqCred _  _  _ _ hs.hs_cred) ?_
 simp -implicitDefEqProofs (disch:=first|exact dd|fail)[Tryz.f203,ABr,AGd]
 refine ⟨fun h=>by (rintro rfl;first | exact h rfl | simp at h),fun _ => ?_⟩
 refine AC_snd (laws_eqOpenS _ _ _ _ hs.hl_files) ?_
 simp -implicitDefEqProofs (disch:=first|exact dd|fail)[Tryz.f203,ABr,AGd]
 refine ⟨fun h=>by (rintro rfl;first | exact h rfl | simp at h),fun _ => ?_⟩
 cases x
 cases y
 simp_all
def wLProc (xs:List DProc):Nat:=xs.length + wList wProc xs
set_option maxHeartbeats 8000000 in
set_option maxRecDepth 4000 in
theorem laws_szProcS (nl:Option Bool) (xs:List DProc) (l:Int) (h0:0≤l) (h1:l≤1048576) (hl:xs.length≤maxLen) (hx:∀ x ∈ xs,WfProc x) :
  Snd Tryz.prog 118 [.frz 4 nl (xs.map cProc), .int .i64 l] (.int .i64 (szR (wLProc xs) l)) [.unk, .unk]:=Runs.snd (M:=M) (c:=⟨2,[4,5,11,15,25],[],[]⟩) tok ks mixed Tryz.func118 (p := []) (by kernel_rfl) (by rfl) (by rfl) <| by
 unfold maxLen at hl
 have hw:szR (wLProc xs) l=if l - xs.length < 0 then -1 else szR (wList wProc xs) (l - xs.length):=szR_step _ _ _
 simp -implicitDefEqProofs (disch:=first|exact dd|fail)[Tryz.f118,ABr,AGd]
 refine ⟨fun h=>by rw [hw,if_pos h],fun h => ?_⟩
 rw [if_neg (by omega)] at hw
 refine AL_ind (ι:=Nat × Int) (fun x=>xs.length - x.1) (fun x=>⟨[(0, .frz 4 nl (xs.map cProc)),(1, .int .i64 x.2),(4, .int .i64 0),(5, .int .i64 x.1)],[],false⟩)
  (fun x=>x.1≤xs.length∧0≤x.2∧x.2≤1048576∧szR (wList wProc (xs.drop x.1)) x.2=szR (wLProc xs) l) (0,l - xs.length) rfl ⟨by simp,by omega,by omega,hw.symm⟩ ?_
 rintro ⟨i,a⟩ n ⟨hi,ha0,ha1,hr⟩ ih
 simp only at hi ha0 ha1 hr ⊢
 rcases Nat.lt_or_ge i xs.length with hlt | hge
 ·have hxi:=hx xs[i] (List.getElem_mem hlt)
  rw [wList_drop _ hlt,szR_step] at hr
  simp -implicitDefEqProofs (disch:=first|exact dd|fail)[Tryz.f118,hlt,cProc,ABr,AGd]
  refine AC_snd (laws_szProc _ _  xs[i] _ (by omega) (by omega) hxi) ?_
  simp -implicitDefEqProofs (disch:=first|exact dd|fail)[Tryz.f118,hlt,cProc,ABr,AGd]
  refine ⟨fun h=>by rw [←hr,if_pos (szR_lt ha0 h)],fun h => ?_⟩
  obtain ⟨e1,h'⟩:=szR_ge h
  rw [if_neg (by omega)] at hr
  rw [e1]
  exact ih (i + 1,a - wProc xs[i]) ⟨by simp only;omega,by simp only;omega,by simp only;omega,hr⟩ (by simp only;omega)
 ·obtain rfl:i=xs.length:=by omega
  simp -implicitDefEqProofs (disch:=first|exact dd|fail)[Tryz.f118,ABr,AGd]
  rw [←hr,List.drop_length,wList,szR_zero ha0]
set_option maxHeartbeats 8000000 in
set_option maxRecDepth 4000 in
theorem laws_toProcS (nl:Option Bool) (xs:List DProc) (hl:xs.length≤1048576) (hx:∀ x ∈ xs,SmProc x) :
  Snd Tryz.prog 121 [.frz 4 nl (xs.map cProc)] (.row 4 (xs.map cProc)) [.unk]:=Runs.snd (M:=M) (c:=⟨1,[2,3,4,11],[],[]⟩) tok ks mixed Tryz.func121 (p := []) (by kernel_rfl) (by rfl) (by rfl) <| by
 have hl':(xs.length:Int)≤1073741824:=by omega
 simp -implicitDefEqProofs (disch:=first|exact dd|fail)[Tryz.f121,LIM,hl',ABr,AGd]
 rw [fillTo_zero (c:=cProc)]
 refine AL_ind (fun i=>xs.length - i) (fun i=>⟨[(0, .frz 4 nl (xs.map cProc)),(2, .frz 0 (some true) []),(3, .ref 384 none 4 0 xs.length (some false)),(4, .int .i64 i)],[(384, .row 4 (fillTo cProc [.int .i64 0, .int .i64 0, .row 1 [], .row 3 []] xs i) [])],false⟩)
  (fun i=>i≤xs.length) 0 rfl (by omega) ?_
 intro i n hi ih
 rcases Nat.lt_or_ge i xs.length with hlt | hge
 ·have hs:=fillTo_set (c:=cProc) (z := [.int .i64 0, .int .i64 0, .row 1 [], .row 3 []]) hlt
  have hg:=fillTo_get (c:=cProc) (z := [.int .i64 0, .int .i64 0, .row 1 [], .row 3 []]) hlt
  simp only [cProc] at hs hg
  simp -implicitDefEqProofs (disch:=first|exact dd|fail)[Tryz.f121,hlt,hs,hg,fillTo_len,cProc,ABr,AGd]
  refine AC_snd (laws_toProc _ _  _ (hx xs[i] (List.getElem_mem hlt))) ?_
  simp -implicitDefEqProofs (disch:=first|exact dd|fail)[Tryz.f121,hlt,hs,hg,fillTo_len,cProc,ABr,AGd]
  exact ih (i + 1) (by omega) (by omega)
 ·obtain rfl:i=xs.length:=by omega
  simp -implicitDefEqProofs (disch:=first|exact dd|fail)[Tryz.f121,fillTo_len,fillTo_end,ABr,AGd]
set_option maxHeartbeats 8000000 in
set_option maxRecDepth 4000 in
theorem laws_eqProcS (n1 n2:Option Bool) (xs ys:List DProc) (hl:xs.length≤1048576) (hx:∀ x ∈ xs,SmProc x) :
  Snd Tryz.prog 124 [.frz 4 n1 (xs.map cProc), .frz 4 n2 (ys.map cProc)] (.bool (decide (xs=ys))) [.unk, .unk]:=Runs.snd (M:=M) (c:=⟨2,[4,5,10,14,26],[],[]⟩) tok ks mixed Tryz.func124 (p := []) (by kernel_rfl) (by rfl) (by rfl) <| by
 simp -implicitDefEqProofs (disch:=first|exact dd|fail)[Tryz.f124,ABr,AGd]
 refine ⟨fun h=>by rintro rfl;exact h rfl,fun h => ?_⟩
 refine AL_ind (fun i=>xs.length - i) (fun i=>⟨[(0, .frz 4 n1 (xs.map cProc)),(1, .frz 4 n2 (ys.map cProc)),(4, .bool false),(5, .int .i64 i)],[],false⟩)
  (fun i=>i≤xs.length∧xs.take i=ys.take i) 0 rfl ⟨by omega,rfl⟩ ?_
 rintro i n ⟨hi,he⟩ ih
 rcases Nat.lt_or_ge i xs.length with hlt | hge
 ·have hlt':i < ys.length:=by omega
  simp -implicitDefEqProofs (disch:=first|exact dd|fail)[Tryz.f124,hlt,hlt',cProc,ABr,AGd]
  refine AC_snd (laws_eqProc _ _  _ _  _ _ (hx xs[i] (List.getElem_mem hlt))) ?_
  simp -implicitDefEqProofs (disch:=first|exact dd|fail)[Tryz.f124,hlt,hlt',cProc,ABr,AGd]
  refine ⟨fun h1=>by rintro rfl;exact h1 rfl,fun h1 => ?_⟩
  exact ih (i + 1) ⟨by omega,take_step hlt hlt' he h1⟩ (by omega)
 ·obtain rfl:i=xs.length:=by omega
  simp -implicitDefEqProofs (disch:=first|exact dd|fail)[Tryz.f124,ABr,AGd]
  exact take_all (by omega) he
def mkProc (x:DProc) (k:Int):DProc:={ cred:={ x.cred with uid:=k,gid:=(k + 1),groups:=mLInt x.cred.groups ((k + 1) + 1) },files:=mLOpen x.files (((k + 1) + 1) + ((nLInt x.cred.groups:Nat):Int)) }
def nmProc (x:DProc):Nat:=2 + nLInt x.cred.groups + nLOpen x.files
abbrev mLProc (xs:List DProc) (k:Int):List DProc:=mkL mkProc nmProc xs k
abbrev nLProc (xs:List DProc):Nat:=wList nmProc xs
set_option maxHeartbeats 8000000 in
set_option maxRecDepth 4000 in
theorem laws_markProcS (xs:List DProc) (k:Int) (hl:xs.length≤1048576) (hk:0≤k) (hn:k + nLProc xs≤16777216) (hx:∀ x ∈ xs,SmProc x) :
  Snd Tryz.prog 125 [.row 4 (xs.map cProc), .int .i64 k] (.int .i64 (k + nLProc xs)) [.row 4 ((mLProc xs k).map cProc), .unk]:=Runs.snd (M:=M) (c:=⟨2,[4,5,9],[],[]⟩) tok ks mixed Tryz.func125 (p := [0]) (by kernel_rfl) (by rfl) (by rfl) <| by
 have hml:(mLProc xs k).length=xs.length:=mkL_len
 simp -implicitDefEqProofs (disch:=first|exact dd|fail)[Tryz.f125,ABr,AGd]
 rw [patch_zero (c:=cProc) (ms:=mLProc xs k) (xs:=xs)]
 refine AL_ind (ι:=Nat × Int) (fun x=>xs.length - x.1) (fun x=>⟨[(0, .ref 0 none 4 0 xs.length none),(1, .int .i64 x.2),(4, .int .i64 0),(5, .int .i64 x.1)],[(0, .row 4 (patch cProc (mLProc xs k) xs x.1) [])],false⟩)
  (fun x=>x.1≤xs.length∧x.2=k + wList nmProc (xs.take x.1)) (0,k) rfl ⟨by simp,by simp [wList]⟩ ?_
 rintro ⟨i,a⟩ n ⟨hi,ha⟩ ih
 simp only at hi ha ⊢
 rcases Nat.lt_or_ge i xs.length with hlt | hge
 ·have hw:=wList_take (n:=nmProc) hlt
  have hle:=wList_take_le (n:=nmProc) (xs:=xs) (i:=i + 1)
  have hpl:=patch_len (c:=cProc) hml hi
  have hg:=patch_get (c:=cProc) hml hlt
  have hpi:=Nat.lt_of_lt_of_eq hlt hpl.symm
  rw [List.getElem?_eq_getElem hpi] at hg
  have hg:=Option.some.inj hg
  have hs:=patch_put (c:=cProc) hml hlt (mkL_get (f:=mkProc) hlt)
  rw [←ha] at hs
  simp only [cProc,mkProc,nmProc] at hg hs hw
  simp only [nLProc] at hn
  simp -implicitDefEqProofs (disch:=first|exact dd|fail)[Tryz.f125,hlt,hg,hs,patch_len hml,List.set_set,cProc,ABr,AGd]
  refine AC_snd (laws_markIntS _ _ (hx xs[i] (List.getElem_mem hlt)).hs_cred.hl_groups (by omega) (by first | omega | (simp only [nLInt];omega))) ?_
  simp -implicitDefEqProofs (disch:=first|exact dd|fail)[Tryz.f125,hlt,hg,hs,patch_len hml,List.set_set,cProc,ABr,AGd]
  refine AC_snd (laws_markOpenS _ _ (hx xs[i] (List.getElem_mem hlt)).hl_files (by omega) (by first | omega | (simp only [nLOpen];omega))) ?_
  simp -implicitDefEqProofs (disch:=first|exact dd|fail)[Tryz.f125,hlt,hg,hs,patch_len hml,List.set_set,cProc,ABr,AGd]
  refine ih (i + 1,_) ⟨by simp only;omega,?_⟩ (by simp only;omega)
  simp only
  omega
 ·obtain rfl:i=xs.length:=by omega
  simp -implicitDefEqProofs (disch:=first|exact dd|fail)[Tryz.f125,patch_len hml,patch_end hml,hml,ABr,AGd]
  rw [ha,List.take_length]
set_option maxHeartbeats 8000000 in
set_option maxRecDepth 4000 in
theorem laws_heldProcS (nl:Option Bool) (xs:List DProc) (k:Int) (hl:xs.length≤1048576) (hk:0≤k) (hn:k + nLProc xs≤16777216) (hx:∀ x ∈ xs,SmProc x) :
  Snd Tryz.prog 126 [.frz 4 nl ((mLProc xs k).map cProc), .int .i64 k] (.int .i64 (k + nLProc xs)) [.unk, .unk]:=Runs.snd (M:=M) (c:=⟨2,[4,5,9,19,29,41,50],[],[]⟩) tok ks mixed Tryz.func126 (p := []) (by kernel_rfl) (by rfl) (by rfl) <| by
 have hml:(mLProc xs k).length=xs.length:=mkL_len
 simp -implicitDefEqProofs (disch:=first|exact dd|fail)[Tryz.f126,hml,ABr,AGd]
 refine AL_ind (ι:=Nat × Int) (fun x=>xs.length - x.1) (fun x=>⟨[(0, .frz 4 nl ((mLProc xs k).map cProc)),(1, .int .i64 x.2),(4, .int .i64 0),(5, .int .i64 x.1)],[],false⟩)
  (fun x=>x.1≤xs.length∧x.2=k + wList nmProc (xs.take x.1)) (0,k) rfl ⟨by simp,by simp [wList]⟩ ?_
 rintro ⟨i,a⟩ n ⟨hi,ha⟩ ih
 simp only at hi ha ⊢
 rcases Nat.lt_or_ge i xs.length with hlt | hge
 ·have hw:=wList_take (n:=nmProc) hlt
  have hle:=wList_take_le (n:=nmProc) (xs:=xs) (i:=i + 1)
  have hg:=mkL_get (f:=mkProc) (n:=nmProc) (k:=k) hlt
  rw [←ha] at hg
  have hlt':i < (mLProc xs k).length:=by omega
  rw [List.getElem?_eq_getElem hlt'] at hg
  have hg:=Option.some.inj hg
  simp only [mkProc,nmProc] at hg hw
  simp only [nLProc] at hn
  (try simp -implicitDefEqProofs (disch:=first|exact dd|fail)[Tryz.f126,hlt,hlt',hg,hml,cProc]);(repeat'((with_reducible first|(refine Br.out ?_ ?_<;>intro h<;>(try(have h0:=h;simp only[bH]at h)))|refine AC_snd (laws_heldIntS _ _ _ (hx xs[i] (List.getElem_mem hlt)).hs_cred.hl_groups (by omega) (by first | omega | (simp only [nLInt];omega))) ?_|refine AC_snd (laws_heldOpenS _ _ _ (hx xs[i] (List.getElem_mem hlt)).hl_files (by omega) (by first | omega | (simp only [nLOpen];omega))) ?_|fail)<;>(try simp -implicitDefEqProofs (disch:=first|exact dd|fail)[Tryz.f126,hlt,hlt',hg,hml,cProc])))
  all_goals try omega
  refine ih (i + 1,_) ⟨by simp only;omega,?_⟩ (by simp only;omega)
  simp only
  omega
 ·obtain rfl:i=xs.length:=by omega
  simp -implicitDefEqProofs (disch:=first|exact dd|fail)[Tryz.f126,hml,ABr,AGd]
  rw [ha,List.take_length]
structure WfSystem (x:DSystem):Prop where
 hs_fs:WfFS x.fs
 hl_procs:x.procs.length≤maxLen
 hx_procs:∀ y ∈ x.procs,WfProc y
structure SmSystem (x:DSystem):Prop where
 hs_fs:SmFS x.fs
 hl_procs:x.procs.length≤1048576
 hx_procs:∀ y ∈ x.procs,SmProc y
def wSystem (x:DSystem):Nat:=wFS x.fs + wLProc x.procs
theorem smSystem_of {x:DSystem} (h:wSystem x≤1048576):SmSystem x:=by
 simp only [wSystem,wLProc] at h
 exact ⟨smFS_of (by omega),by omega,fun y hy=>smProc_of (by have:=wList_mem (f:=wProc) hy;omega)⟩
set_option maxHeartbeats 8000000 in
set_option maxRecDepth 4000 in
theorem laws_szSystem (n0 n1 n2 n3:Option Bool) (x:DSystem) (n:Int) (h0:0≤n) (h1:n≤1048576) (hw:WfSystem x) :
  Snd Tryz.prog 41 [.agg [.int .i64 x.fs.tick, .frz 2 n0 (x.fs.quotas.map cQuota), .frz 10 n1 (x.fs.inodes.map cInode), .frz 1 n2 (x.fs.data.map cs), .frz 4 n3 (x.procs.map cProc)], .int .i64 n] (.int .i64 (szR (wSystem x) n)) [.unk, .unk]:=Runs.snd (M:=M) (c:=⟨2,[2,4,10,16],[],[]⟩) tok ks mixed Tryz.func41 (p := []) (by kernel_rfl) (by rfl) (by rfl) <| by
 have w1:szR (wSystem x) n=_:=szR_step _ _ _
 simp -implicitDefEqProofs (disch:=first|exact dd|fail)[Tryz.f41,ABr,AGd]
 refine AC_snd (laws_szFS _ _ _  _ _ (by omega) (by omega) hw.hs_fs) ?_
 simp -implicitDefEqProofs (disch:=first|exact dd|fail)[Tryz.f41,ABr,AGd]
 refine ⟨fun h=>by rw [w1,if_pos (szR_lt (by omega) h)],fun h => ?_⟩
 obtain ⟨e1,h'⟩:=szR_ge h
 rw [if_neg (by omega)] at w1
 rw [e1]
 refine AC_snd (laws_szProcS _ _ _ (by omega) (by omega) hw.hl_procs hw.hx_procs) ?_
 simp -implicitDefEqProofs (disch:=first|exact dd|fail)[Tryz.f41,w1,ABr,AGd]
 exact fun h=>szR_m1 (by omega) h
set_option maxHeartbeats 8000000 in
set_option maxRecDepth 4000 in
theorem laws_toSystem (n0 n1 n2 n3:Option Bool) (x:DSystem) (hs:SmSystem x) :
  Snd Tryz.prog 43 [.agg [.int .i64 x.fs.tick, .frz 2 n0 (x.fs.quotas.map cQuota), .frz 10 n1 (x.fs.inodes.map cInode), .frz 1 n2 (x.fs.data.map cs), .frz 4 n3 (x.procs.map cProc)]] (.agg [.int .i64 x.fs.tick, .row 2 (x.fs.quotas.map cQuota), .row 10 (x.fs.inodes.map cInode), .row 1 (x.fs.data.map cs), .row 4 (x.procs.map cProc)]) [.unk]:=Runs.snd (M:=M) (c:=⟨1,[1,2,3],[],[]⟩) tok ks mixed Tryz.func43 (p := []) (by kernel_rfl) (by rfl) (by rfl) <| by
 simp -implicitDefEqProofs (disch:=first|exact dd|fail)[Tryz.f43,ABr,AGd]
 refine AC_snd (laws_toFS _ _ _  _ hs.hs_fs) ?_
 simp -implicitDefEqProofs (disch:=first|exact dd|fail)[Tryz.f43,ABr,AGd]
 refine AC_snd (laws_toProcS _ _ hs.hl_procs hs.hx_procs) ?_
 simp -implicitDefEqProofs (disch:=first|exact dd|fail)[Tryz.f43,ABr,AGd]
set_option maxHeartbeats 8000000 in
set_option maxRecDepth 4000 in
theorem laws_eqSystem (n0 n1 n2 n3:Option Bool) (n4 n5 n6 n7:Option Bool) (x y:DSystem) (hs:SmSystem x) :
  Snd Tryz.prog 45 [.agg [.int .i64 x.fs.tick, .frz 2 n0 (x.fs.quotas.map cQuota), .frz 10 n1 (x.fs.inodes.map cInode), .frz 1 n2 (x.fs.data.map cs), .frz 4 n3 (x.procs.map cProc)], .agg [.int .i64 y.fs.tick, .frz 2 n4 (y.fs.quotas.map cQuota), .frz 10 n5 (y.fs.inodes.map cInode), .frz 1 n6 (y.fs.data.map cs), .frz 4 n7 (y.procs.map cProc)]] (.bool (decide (x=y))) [.unk, .unk]:=Runs.snd (M:=M) (c:=⟨2,[2,3,4,10,16],[],[]⟩) tok ks mixed Tryz.func45 (p := []) (by kernel_rfl) (by rfl) (by rfl) <| by
 simp -implicitDefEqProofs (disch:=first|exact dd|fail)[Tryz.f45,ABr,AGd]
 refine AC_snd (laws_eqFS _ _ _  _ _ _  _ _ hs.hs_fs) ?_
 simp -implicitDefEqProofs (disch:=first|exact dd|fail)[Tryz.f45,ABr,AGd]
 refine ⟨fun h=>by (rintro rfl;first | exact h rfl | simp at h),fun _ => ?_⟩
 refine AC_snd (laws_eqProcS _ _ _ _ hs.hl_procs hs.hx_procs) ?_
 simp -implicitDefEqProofs (disch:=first|exact dd|fail)[Tryz.f45,ABr,AGd]
 refine ⟨fun h=>by (rintro rfl;first | exact h rfl | simp at h),fun _ => ?_⟩
 cases x
 cases y
 simp_all
abbrev mtSystem (x:DSystem) (k:Int):DSystem:={ x with fs:=mtFS x.fs k,procs:=mLProc x.procs (k + ((ntFS x.fs:Nat):Int)) }
abbrev ntSystem (x:DSystem):Nat:=ntFS x.fs + nLProc x.procs
set_option maxHeartbeats 8000000 in
set_option maxRecDepth 4000 in
theorem laws_markSystem (x:DSystem) (k:Int) (hs:SmSystem x) (hk:0≤k) (hn:k + ntSystem x≤16777216) :
  Snd Tryz.prog 46 [.agg [.int .i64 x.fs.tick, .row 2 (x.fs.quotas.map cQuota), .row 10 (x.fs.inodes.map cInode), .row 1 (x.fs.data.map cs), .row 4 (x.procs.map cProc)], .int .i64 k] (.int .i64 (k + ntSystem x)) [.agg [.unk, .row 2 ((mtSystem x k).fs.quotas.map cQuota), .row 10 ((mtSystem x k).fs.inodes.map cInode), .row 1 ((mtSystem x k).fs.data.map cs), .row 4 ((mtSystem x k).procs.map cProc)], .unk]:=Runs.snd (M:=M) (c:=⟨2,[2,4],[],[]⟩) tok ks mixed Tryz.func46 (p := [0]) (by kernel_rfl) (by rfl) (by rfl) <| by
 simp only [ntSystem,ntFS] at hn
 simp -implicitDefEqProofs (disch:=first|exact dd|fail)[Tryz.f46,ABr,AGd]
 refine AC_snd (laws_markFS _ _ hs.hs_fs (by omega) (by first | omega | (simp only [ntFS];omega))) ?_
 simp -implicitDefEqProofs (disch:=first|exact dd|fail)[Tryz.f46,mkL_len,ABr,AGd]
 refine AC_snd (laws_markProcS _ _ hs.hl_procs (by omega) (by omega) hs.hx_procs) ?_
 simp -implicitDefEqProofs (disch:=first|exact dd|fail)[Tryz.f46,mkL_len,ABr,AGd]
 all_goals omega
set_option maxHeartbeats 8000000 in
set_option maxRecDepth 4000 in
theorem laws_heldSystem (n0 n1 n2 n3:Option Bool) (x:DSystem) (k:Int) (hs:SmSystem x) (hk:0≤k) (hn:k + ntSystem x≤16777216) :
  Snd Tryz.prog 47 [.agg [.int .i64 (mtSystem x k).fs.tick, .frz 2 n0 ((mtSystem x k).fs.quotas.map cQuota), .frz 10 n1 ((mtSystem x k).fs.inodes.map cInode), .frz 1 n2 ((mtSystem x k).fs.data.map cs), .frz 4 n3 ((mtSystem x k).procs.map cProc)], .int .i64 k] (.int .i64 (k + ntSystem x)) [.unk, .unk]:=Runs.snd (M:=M) (c:=⟨2,[2,4,10,16],[],[]⟩) tok ks mixed Tryz.func47 (p := []) (by kernel_rfl) (by rfl) (by rfl) <| by
 simp only [ntSystem,ntFS] at hn
 simp -implicitDefEqProofs (disch:=first|exact dd|fail)[Tryz.f47,ABr,AGd]
 refine AC_snd (laws_heldFS _ _ _  _ _ hs.hs_fs (by omega) (by first | omega | (simp only [ntFS];omega))) ?_
 simp -implicitDefEqProofs (disch:=first|exact dd|fail)[Tryz.f47,ABr,AGd]
 refine ⟨fun h=>by omega,fun h => ?_⟩
 refine AC_snd (laws_heldProcS _ _ _ hs.hl_procs (by omega) (by omega) hs.hx_procs) ?_
 simp -implicitDefEqProofs (disch:=first|exact dd|fail)[Tryz.f47,ABr,AGd]
 first | omega | exact ⟨fun h=>by omega,fun h=>by omega⟩ | exact fun h=>by omega
end Go.Proofs.YtgopfdninbknpaaGreat
