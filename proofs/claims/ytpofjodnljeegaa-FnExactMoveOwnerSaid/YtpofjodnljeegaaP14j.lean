import Derived.Test.YtpofjodnljeegaaM19
import Derived.Test.YtpofjodnljeegaaP08a
import Derived.Test.YtpofjodnljeegaaP14b
import Derived.Test.YtpofjodnljeegaaP09a
namespace Go.Proofs.Ytpofjodnljeegaa
open Go.Fw
set_option linter.unusedVariables false
set_option linter.unusedSimpArgs false
set_option maxHeartbeats 1000000
set_option maxRecDepth 8000
def mvT (D : List Str) (b : Int) : Str := if b = -1 then [] else D.getD b.toNat []
theorem spec_l09Move (n1 n2 n3 : Option Bool) (f : DFS) (i u : Int) (hs : SmF f) (hf : IsFS f) (hi : hasI f i = true) (hu : IsUser u) : Snd Try.prog 76 [fFS n1 n2 n3 f, .int .i64 i, .int .i64 u] (.tup [rFS (if (moveP f i u).2 = 0 then (moveP f i u).1 else f), .int .i64 (moveP f i u).2]) [.unk, .unk, .unk] := Runs.snd (M := M) (c := ⟨3, [3, 6, 7, 8, 9, 10, 12, 13, 14, 15, 16, 17, 18, 30, 34, 35, 36, 37, 41, 67, 68, 69, 82, 83, 84, 85, 90, 98], [], [(1, [0, 1, 2, 3, 6, 7, 8, 9, 10, 13, 14, 15, 16, 17, 18, 30, 34, 35, 36, 37, 41, 67, 68, 69, 82, 83, 84, 85, 90, 98]), (3, [0, 1, 2, 3, 6, 7, 8, 9, 10, 12, 13, 15, 16, 17, 18, 30, 34, 35, 36, 37, 41, 67, 68, 69, 82, 83, 84, 85, 90, 98]), (5, [0, 1, 2, 3, 6, 7, 8, 9, 10, 12, 13, 14, 30, 34, 35, 36, 37, 41, 67, 68, 69, 82, 83, 84, 85, 90, 98])]⟩) tok ks mixed Try.func76 (p := []) (by kernel_rfl) (by rfl) (by rfl) <| by
 have hi' := hasI_lt hi
 obtain ⟨I, rfl⟩ := Int.eq_ofNat_of_zero_le hi'.1
 have hI : I < 20 := by omega
 have hlt : I < f.inodes.length := by rw [hf.ni]; omega
 have he := inodeAt_nat hlt
 have hok := (isInode_ok hi'.2.2).1 (hf.sm _ ⟨hi'.1, hi'.2.1⟩)
 rw [he] at hok
 have hsn := hs.inode _ (List.getElem_mem hlt)
 unfold moveP
 rw [he, if_neg (Classical.not_not.2 hu)]
 by_cases hux : u = f.inodes[I].uid
 ·rw [if_pos hux]
  (try simp -implicitDefEqProofs (disch := first | exact dd | fail) [Try.f76, hlt, hux, cInode]); (repeat' ((with_reducible first | (refine Br.out ?_ ?_ <;> intro h <;> (try (have h0 := h; simp only [bH] at h))) | refine AC_snd (spec_l08Copy _ _ _ f hs) ?_ | refine AC_snd (spec_l07Copy _ _ _ f.inodes[I] hsn) ?_ | fail) <;> (try simp -implicitDefEqProofs (disch := first | exact dd | fail) [Try.f76, hlt, hux, cInode])))
 rw [if_neg hux]
 have hux' : ¬ f.inodes[I].uid = u := fun h => hux h.symm
 have hmi := MI.start (u := u) hs hf.nq hf.ni hI (used_inR hf.inode hf.own) (List.getElem?_eq_getElem hlt) hok hf.nd hf.secs
 have hx8 := (hf.inode _ (List.getElem_mem hlt)).len.1
 have hxa := (hf.inode _ (List.getElem_mem hlt)).len
 have hxo := hf.own _ (List.getElem_mem hlt)
 have hxr := (hf.blks (List.getElem_mem hlt)).2.2
 simp only [Int.toNat_natCast]
 obtain ⟨W, hW⟩ : ∃ W, W = moveL f I u := ⟨_, rfl⟩
 rw [← hW]
 unfold moveL at hW
 rw [he] at hW
 obtain ⟨R, hR⟩ : ∃ R : DFS, R = if W.2.2 = 0 then ⟨f.tick, f.quotas, f.inodes.set I { W.1 with uid := if W.2.2 = 0 then u else W.1.uid }, W.2.1⟩ else f := ⟨_, rfl⟩
 rw [← hR]
 have hGRn : ∀ n : DInode, (f.inodes.map cInode).set I (cInode n) = (f.inodes.set I n).map cInode := fun n => by rw [List.map_set]
 (try simp -implicitDefEqProofs (disch := first | exact dd | fail) [Try.f76, hlt, hux', cInode]); (repeat' ((with_reducible first | (refine Br.out ?_ ?_ <;> intro h <;> (try (have h0 := h; simp only [bH] at h))) | refine AC_snd (spec_l08Copy _ _ _ f hs) ?_ | refine AC_snd (spec_l07Copy _ _ _ f.inodes[I] hsn) ?_ | fail) <;> (try simp -implicitDefEqProofs (disch := first | exact dd | fail) [Try.f76, hlt, hux', cInode])))
 generalize hx : f.inodes[I] = x at *
 have hfd := hf.nd
 have hzl := fun b => zeroR_len (data := f.data) (bs := b)
 refine AL_fors (σ := Unit) 36 x.blocks.length (fun k _ => [(10, .ref 1280 none 1 0 k (some false))]) (fun k _ => [(1032, .row 1 ((zeroR f.data (real (x.blocks.take k))).map cs) []), (1280, .row 1 (((x.blocks.take k).map (mvT f.data)).map cs) [])]) (fun _ _ => True) () (by simp [real, zeroR]) trivial (fun k _ n hk _ ih => ?_) (fun _ n _ => ?_)
 ·have hj := ih () trivial
  have hrt := real_take hk
  have htt : (x.blocks.take (k + 1)).map (mvT f.data) = (x.blocks.take k).map (mvT f.data) ++ [mvT f.data x.blocks[k]] := by
   rw [List.take_succ_eq_append_getElem hk, List.map_append]
   rfl
  have hTl : ((x.blocks.take k).map (mvT f.data)).length = k := by simp; omega
  rw [htt] at hj
  have hzk := hzl (real (x.blocks.take k))
  by_cases hb : x.blocks[k] = -1
  ·rw [if_pos hb] at hrt
   have hmv : mvT f.data x.blocks[k] = [] := by rw [mvT, if_pos hb]
   rw [hrt, hmv] at hj
   simp only [List.map_append, List.map_cons, List.map_nil, cs] at hj
   generalize (x.blocks.take k).map (mvT f.data) = E at *
   have htk := takeM (f := cs) hTl
   (try simp -implicitDefEqProofs (disch := first | exact dd | fail) [Try.f76, hk, hb, hTl, htk, cInode]); (repeat' ((with_reducible first | (refine Br.out ?_ ?_ <;> intro h <;> (try (have h0 := h; simp only [bH] at h))) | fail) <;> (try simp -implicitDefEqProofs (disch := first | exact dd | fail) [Try.f76, hk, hb, hTl, htk, cInode])))
   all_goals first | exact hj
  ·rw [if_neg hb] at hrt
   have hbr := hxr _ (List.getElem_mem hk) hb
   obtain ⟨b, hbk⟩ := Int.eq_ofNat_of_zero_le hbr.1
   have hmv : mvT f.data x.blocks[k] = f.data.getD b [] := by rw [mvT, if_neg hb, hbk]; rfl
   have hget : (zeroR f.data (real (x.blocks.take k)))[b]? = f.data[b]? := zeroR_get (fun d hd e => by
    have hm := mem_real.1 hd
    have h0 := hxr d (List.mem_of_mem_take hm.1) hm.2
    obtain ⟨j, hj1, hj2⟩ := List.mem_iff_getElem.1 hm.1
    rw [List.length_take] at hj1
    rw [List.getElem_take] at hj2
    exact blk_ne hok (show j < k by omega) (List.getElem?_eq_getElem (by omega)) (by rw [List.getElem?_eq_getElem hk, hj2, hbk]; congr 1; omega) (by rw [hj2]; exact hm.2))
   have hz : zeroR f.data (real (x.blocks.take k) ++ [(b : Int)]) = (zeroR f.data (real (x.blocks.take k))).set b zero32 := by
    unfold zeroR
    rw [List.foldl_append]
    rfl
   rw [hbk] at hb hrt hbr
   have hbD : b < f.data.length := by omega
   have hgd : f.data.getD b [] = f.data[b] := by simp [hbD]
   rw [hgd] at hmv
   rw [hrt, hz, hmv] at hj
   rw [List.getElem?_eq_getElem hbD] at hget
   simp only [List.map_append, List.map_cons, List.map_nil, cs, List.map_set] at hj
   generalize zeroR f.data (real (x.blocks.take k)) = Y at *
   have hbY : b < Y.length := by omega
   have hgY : Y[b] = f.data[b] := by
    rw [List.getElem?_eq_getElem hbY] at hget
    injection hget
   generalize (x.blocks.take k).map (mvT f.data) = E at *
   have htk := takeM (f := cs) hTl
   (try simp -implicitDefEqProofs (disch := first | exact dd | fail) [Try.f76, hk, hb, hbk, hbY, hgY, hTl, htk, cInode]); (repeat' ((with_reducible first | (refine Br.out ?_ ?_ <;> intro h <;> (try (have h0 := h; simp only [bH] at h))) | refine AC_snd (spec_PadTo0) ?_ | fail) <;> (try simp -implicitDefEqProofs (disch := first | exact dd | fail) [Try.f76, hk, hb, hbk, hbY, hgY, hTl, htk, cInode])))
   all_goals first | exact hj
 rw [List.take_length]
 have hTl : (x.blocks.map (mvT f.data)).length = x.blocks.length := by simp
 have hTg : ∀ k (h : k < x.blocks.length), (x.blocks.map (mvT f.data))[k]? = some (mvT f.data x.blocks[k]) := fun k h => by simp [h]
 have hzf := hzl (real x.blocks)
 obtain ⟨TX, hTX⟩ : ∃ TX, TX = x.blocks.map (mvT f.data) := ⟨_, rfl⟩
 have hzD : zeroR f.data (real x.blocks) = zeroR f.data (real (x.blocks.drop 0)) := rfl
 obtain ⟨Y, hY⟩ : ∃ Y, Y = zeroR f.data (real x.blocks) := ⟨_, rfl⟩
 rw [← hTX, ← hY]
 rw [← hTX] at hTl hTg
 rw [← hY] at hzf
 (try simp -implicitDefEqProofs (disch := first | exact dd | fail) [Try.f76, hlt, cInode]); (repeat' ((with_reducible first | (refine Br.out ?_ ?_ <;> intro h <;> (try (have h0 := h; simp only [bH] at h))) | fail) <;> (try simp -implicitDefEqProofs (disch := first | exact dd | fail) [Try.f76, hlt, cInode])))
 refine AL_fors (σ := Unit) 68 x.blocks.length (fun _ _ => []) (fun k _ => [(1168, .row 1 ((List.replicate k (-1) ++ x.blocks.drop k).map ci) [])]) (fun _ _ => True) () (by simp) trivial (fun k _ n hk _ ih => ?_) (fun _ n _ => ?_)
 ·have hj := ih () trivial
  have hl : (List.replicate k (-1) ++ x.blocks.drop k).length = x.blocks.length := by simp; omega
  have hst : (List.replicate k (-1 : Int) ++ x.blocks.drop k).set k (-1) = List.replicate (k + 1) (-1) ++ x.blocks.drop (k + 1) := by
   rw [List.set_append_right _ _ (by simp), List.length_replicate, Nat.sub_self, List.drop_eq_getElem_cons hk, List.set_cons_zero, List.replicate_succ', List.append_assoc]
   rfl
  rw [← hst, List.map_set] at hj
  generalize List.replicate k (-1 : Int) ++ x.blocks.drop k = E at *
  have hkE : k < E.length := by omega
  (try simp -implicitDefEqProofs (disch := first | exact dd | fail) [Try.f76, hk, hl, hkE, cInode]); (repeat' ((with_reducible first | (refine Br.out ?_ ?_ <;> intro h <;> (try (have h0 := h; simp only [bH] at h))) | fail) <;> (try simp -implicitDefEqProofs (disch := first | exact dd | fail) [Try.f76, hk, hl, hkE, cInode])))
  all_goals first | exact hj
 have hm0 : List.replicate x.blocks.length (-1) ++ x.blocks.drop x.blocks.length = (mvN x u 0).blocks := by simp [mvN]
 rw [hm0]
 have hml := mvN_len (n := x) (u := u) (Nat.zero_le _)
 have hms : SmI (mvN x u 0) := ⟨by omega, by simp only [mvN]; omega, by simp only [mvN]; omega⟩
 have hcpG : ∀ E : List Int, E.length = x.blocks.length → Snd Try.prog 92 [.agg [.int .i64 x.kind, .int .i64 x.mode, .int .i64 u, .int .i64 x.gid, .int .i64 x.links, .int .i64 x.size, .int .i64 x.tick, .frz 1 none (E.map ci), .frz 3 none (x.acl.map cAcl), .frz 3 none (x.dflt.map cAcl)]] (.agg [.int .i64 x.kind, .int .i64 x.mode, .int .i64 u, .int .i64 x.gid, .int .i64 x.links, .int .i64 x.size, .int .i64 x.tick, .row 1 (E.map ci), .row 3 (x.acl.map cAcl), .row 3 (x.dflt.map cAcl)]) [.unk] := fun E hE =>
  spec_l07Copy none none none { x with uid := u, blocks := E } ⟨by simp only; omega, by simp only; omega, by simp only; omega⟩
 have hcp := hcpG _ hml
 have htb := takeM (f := ci) hml
 (try simp -implicitDefEqProofs (disch := first | exact dd | fail) [Try.f76, hlt, hml, htb, cInode]); (repeat' ((with_reducible first | (refine Br.out ?_ ?_ <;> intro h <;> (try (have h0 := h; simp only [bH] at h))) | refine AC_snd (hcp) ?_ | fail) <;> (try simp -implicitDefEqProofs (disch := first | exact dd | fail) [Try.f76, hlt, hml, htb, cInode])))
 have hwv := mvN_start (u := u) hlt hok hu hf.once
 refine AL_fors (σ := DInode × List Str) 84 x.blocks.length (fun _ _ => []) (fun k y => [(1030, .row 10 ((f.inodes.set I (mvN y.1 u k)).map cInode) []), (1032, .row 1 ((zeroR y.2 (real (x.blocks.drop k))).map cs) []), (1168, .row 1 ((mvN y.1 u k).blocks.map ci) [])]) (fun k y => MI f I x u k y.1 y.2 ∧ WV f.inodes I (mvN y.1 u k) ∧ mvLoop f I u (x.blocks.length - k) k y.1 y.2 = W) (x, f.data) (by rw [← hGRn, ← hzD, ← hY]; rfl) ⟨hmi, hwv, hW.symm⟩ ?_ ?_
 ·rintro k ⟨N, D⟩ n hk ⟨hm, hv, hwl⟩ ih
  simp only at hm hv hwl ⊢
  obtain ⟨Bl, hBl⟩ : ∃ Bl, Bl = N.blocks := ⟨_, rfl⟩
  have hrest := hm.rest
  rw [← hBl] at hrest
  subst hrest
  clear hBl
  have hw := hm.w
  have hbl := hw.len
  simp only at hbl
  have hkl : k < Bl.length := by omega
  have hgd : Bl.getD k 0 = Bl[k] := by simp [hkl]
  have hsk : x.blocks.length - k = (x.blocks.length - (k + 1)) + 1 := by omega
  rw [hsk, mvLoop] at hwl
  simp only [hgd] at hwl
  have hxk : x.blocks[k]? = some Bl[k] := by
   have := hm.same k (Nat.le_refl _)
   rw [← this]
   simp only
   rw [List.getElem?_eq_getElem hkl]
  have hxk2 : x.blocks[k] = Bl[k] := (List.getElem?_eq_some_iff.1 hxk).2
  by_cases hb : Bl[k] = -1
  ·rw [if_pos hb] at hwl
   have hms2 := mvN_skip (n := { x with blocks := Bl }) (u := u) hkl hb
   have hj := ih ({ x with blocks := Bl }, D) ⟨hm.skip hk (by simp only; rw [hgd]; exact hb), by simp only; rw [hms2]; exact hv, hwl⟩
   simp only [hms2] at hj
   rw [← hxk2] at hb
   have hrd := real_drop (l := x.blocks) hk
   rw [if_pos hb] at hrd
   rw [hrd]
   clear hm hv hGRn
   generalize mvN { x with blocks := Bl } u k = O at *
   generalize f.inodes.set I O = G at *
   generalize zeroR D (real (x.blocks.drop (k + 1))) = D2 at *
   (try simp -implicitDefEqProofs (disch := first | exact dd | fail) [Try.f76, hk, hb, cInode]); (repeat' ((with_reducible first | (refine Br.out ?_ ?_ <;> intro h <;> (try (have h0 := h; simp only [bH] at h))) | fail) <;> (try simp -implicitDefEqProofs (disch := first | exact dd | fail) [Try.f76, hk, hb, cInode])))
   all_goals first | exact hj
  rw [if_neg hb] at hwl
  have hbr := hw.blk _ (List.getElem_mem hkl) hb
  have hOl := mvN_len (n := { x with blocks := Bl }) (u := u) (k := k) (by simp only; omega)
  have hOk := mvN_at (n := { x with blocks := Bl }) (u := u) hkl
  simp only at hOl
  have hDl : D.length = 56 := hw.nd
  have hGl : (f.inodes.set I (mvN { x with blocks := Bl } u k)).length = f.inodes.length := by rw [List.length_set]
  have hzk := hzl
  have hzD2 := zeroR_len (data := D) (bs := real (x.blocks.drop k))
  have hsm : SmF ⟨f.tick, f.quotas, f.inodes.set I (mvN { x with blocks := Bl } u k), zeroR D (real (x.blocks.drop k))⟩ := by
   refine ⟨hs.quotas, by simpa using hs.inodes, fun m hm2 => ?_, by simp only; omega⟩
   rcases List.mem_or_eq_of_mem_set hm2 with h6 | rfl
   ·exact hs.inode m h6
   ·exact ⟨by omega, by simp only [mvN]; omega, by simp only [mvN]; omega⟩
  have hnx := spec_l08NextBlock none none none ⟨f.tick, f.quotas, f.inodes.set I (mvN { x with blocks := Bl } u k), zeroR D (real (x.blocks.drop k))⟩ u hsm (hv.inodes hf.inode) (hv.used hf.own) hu hf.nq (by rw [List.length_set]; exact hf.ni)
  have hnb0 : nextB (setI f I { x with blocks := Bl }) u = nextB ⟨f.tick, f.quotas, f.inodes.set I { x with blocks := Bl }, D⟩ u := rfl
  have hnb := hm.next (E := zeroR D (real (x.blocks.drop k))) hlt hu hxo hux
  rw [hnb0, ← hnb] at hwl
  have hfree := nextB_ok (f := ⟨f.tick, f.quotas, f.inodes.set I (mvN { x with blocks := Bl } u k), zeroR D (real (x.blocks.drop k))⟩) hu
  have hfree2 := nextB_ok (f := ⟨f.tick, f.quotas, f.inodes.set I { x with blocks := Bl }, D⟩) hu
  rw [← hnb] at hfree2
  generalize nextB ⟨f.tick, f.quotas, f.inodes.set I (mvN { x with blocks := Bl } u k), zeroR D (real (x.blocks.drop k))⟩ u = r at *
  obtain ⟨B, e⟩ := r
  simp only at hwl hnx hfree hfree2
  have hb2 : ¬ x.blocks[k] = -1 := by rw [hxk2]; exact hb
  have htG := takeM (f := cInode) hGl
  have hDl2 : (zeroR D (real (x.blocks.drop k))).length = f.data.length := by rw [hzD2, hDl, hf.nd]
  have htD := takeM (f := cs) hDl2
  have htO := takeM (f := ci) hOl
  by_cases he0 : e = 0
  ·subst he0
   obtain ⟨c, rfl, hc56, hco, hcf⟩ := hfree rfl
   obtain ⟨c', hcc, hc56', hco', hcf'⟩ := hfree2 rfl
   obtain rfl : c = c' := by omega
   rw [if_pos rfl] at hwl
   have hb1 : (c : Int) ≠ -1 := by omega
   have hwn := mvN_step (n := { x with blocks := Bl }) (u := u) (c := (c : Int)) hkl
   have hm2 := hm.step hok hlt hxk hb hc56 hco hcf'
   have hv2 := hv.step hlt (by rw [hOl]; exact hkl) hOk hc56 hco hcf
   have hj := ih (wN { x with blocks := Bl } k c, mvD D c Bl[k]) ⟨hm2, by simp only; rw [hwn]; exact hv2, hwl⟩
   simp only [hwn] at hj
   obtain ⟨b, hbk⟩ := Int.eq_ofNat_of_zero_le hbr.1
   have hcn : (c : Int) ∉ real Bl := fun hmm => hcf' (by
    rw [allB_set hlt]
    exact List.mem_append_right _ (List.mem_append_left _ hmm))
   have hrs : real Bl = real (Bl.take k) ++ real (x.blocks.drop k) := by
    have h9 := same_drop hm.same
    simp only at h9
    rw [← h9]
    exact real_take_drop
   have hcd : (c : Int) ∉ real (x.blocks.drop k) := fun hmm => hcn (by rw [hrs]; exact List.mem_append_right _ hmm)
   have hrd := real_drop (l := x.blocks) hk
   rw [if_neg hb2] at hrd
   have hcb : (c : Int) ≠ Bl[k] := fun e => hcd (by rw [hrd, hxk2, ← e]; exact List.mem_cons_self ..)
   have hcd2 : (c : Int) ∉ real (x.blocks.drop (k + 1)) := fun hmm => hcd (by rw [hrd]; exact List.mem_cons_of_mem _ hmm)
   have hmz := mvD_zero (D := D) hok hxk hb hbr.1 hcb hcd2 (fun d hd hd1 => (hxr d hd hd1).1)
   rw [← hmz] at hj
   have hdk := hm.data k (Nat.le_refl _) _ hxk hb
   have htx : TX[k]? = some (D.getD Bl[k].toNat []) := by
    rw [hTg k hk, hxk2, mvT, if_neg hb, List.getD_eq_getElem?_getD, List.getD_eq_getElem?_getD, hdk]
   have hTk : k < TX.length := by omega
   have htxv := (List.getElem?_eq_some_iff.1 htx).2
   generalize D.getD Bl[k].toNat [] = V at *
   have hbs : (mvN { x with blocks := Bl } u k).blocks.length = x.blocks.length := by omega
   have hcp2 := hcpG ((mvN { x with blocks := Bl } u k).blocks.set k c) (by rw [List.length_set]; exact hbs)
   have h6 : (f.inodes.set I (wN (mvN { x with blocks := Bl } u k) k c)).map cInode = (List.map cInode (f.inodes.set I (mvN { x with blocks := Bl } u k))).set I [.int .i64 x.kind, .int .i64 x.mode, .int .i64 u, .int .i64 x.gid, .int .i64 x.links, .int .i64 x.size, .int .i64 x.tick, .row 1 ((List.map ci (mvN { x with blocks := Bl } u k).blocks).set k [.int .i64 c]), .row 3 (x.acl.map cAcl), .row 3 (x.dflt.map cAcl)] := by
    rw [List.map_set, List.map_set, List.set_set]
    congr 1
    simp only [cInode, wN, List.map_set, ci]
    rfl
   have h7 : (wN (mvN { x with blocks := Bl } u k) k c).blocks.map ci = ((mvN { x with blocks := Bl } u k).blocks.map ci).set k [.int .i64 c] := by simp only [wN, List.map_set, ci]
   try simp only at hj
   have h8 : ((zeroR D (real (x.blocks.drop k))).set c V).map cs = ((zeroR D (real (x.blocks.drop k))).map cs).set c [.str V] := by
    rw [List.map_set]
    rfl
   rw [h6, h7, h8] at hj
   simp only [List.map_set, ci] at hcp2
   have hOk2 : k < (mvN { x with blocks := Bl } u k).blocks.length := by omega
   have htO2 : List.take x.blocks.length ((List.map ci (mvN { x with blocks := Bl } u k).blocks).set k [.int .i64 c]) = (List.map ci (mvN { x with blocks := Bl } u k).blocks).set k [.int .i64 c] := List.take_of_length_le (by simp; omega)
   clear hOk hm hv hnb hGRn hfree hfree2 hm2 hv2 hwn h6 h7 h8 hmz
   generalize mvN { x with blocks := Bl } u k = O at *
   generalize f.inodes.set I O = G at *
   generalize zeroR D (real (x.blocks.drop k)) = D2 at *
   have hcD : c < D2.length := by rw [hDl2, hf.nd]; exact hc56
   (try simp -implicitDefEqProofs (disch := first | exact dd | fail) [Try.f76, hlt, hk, hkl, hb2, hOk2, htO2, htx, htxv, hTk, hTl, hbs, htG, htD, hGl, hDl2, hcD, cInode]); (repeat' ((with_reducible first | (refine Br.out ?_ ?_ <;> intro h <;> (try (have h0 := h; simp only [bH] at h))) | refine AC_snd (hnx) ?_ | refine AC_snd (hcp2) ?_ | fail) <;> (try simp -implicitDefEqProofs (disch := first | exact dd | fail) [Try.f76, hlt, hk, hkl, hb2, hOk2, htO2, htx, htxv, hTk, hTl, hbs, htG, htD, hGl, hDl2, hcD, cInode])))
   all_goals first | exact hj
  ·rw [if_neg he0] at hwl
   subst hwl
   simp only [he0, if_false] at hR
   rw [hR]
   clear hOk hm hv ih hnb hGRn hfree hfree2
   generalize mvN { x with blocks := Bl } u k = O at *
   generalize f.inodes.set I O = G at *
   generalize zeroR D (real (x.blocks.drop k)) = D2 at *
   (try simp -implicitDefEqProofs (disch := first | exact dd | fail) [Try.f76, hlt, hk, hkl, hb2, htG, htD, hGl, hDl2, he0, cInode]); (repeat' ((with_reducible first | (refine Br.out ?_ ?_ <;> intro h <;> (try (have h0 := h; simp only [bH] at h))) | refine AC_snd (hnx) ?_ | refine AC_snd (spec_l08Copy _ _ _ f hs) ?_ | fail) <;> (try simp -implicitDefEqProofs (disch := first | exact dd | fail) [Try.f76, hlt, hk, hkl, hb2, htG, htD, hGl, hDl2, he0, cInode])))
 ·rintro ⟨N, D⟩ n ⟨hm, hv, hwl⟩
  simp only at hm hv hwl ⊢
  rw [Nat.sub_self, mvLoop] at hwl
  subst hwl
  simp only [if_true] at hR
  rw [hR]
  have hw := hm.w
  have hend := mvN_end (n := N) (u := u)
  rw [hw.len] at hend
  rw [hend, List.drop_of_length_le (Nat.le_refl _)]
  have hz0 : zeroR D (real []) = D := rfl
  rw [hz0]
  have hDl : D.length = f.data.length := by rw [hw.nd, hf.nd]
  have hGl : (f.inodes.set I { N with uid := u }).length = f.inodes.length := by rw [List.length_set]
  generalize f.inodes.set I { N with uid := u } = G at *
  (try simp -implicitDefEqProofs (disch := first | exact dd | fail) [Try.f76, hlt, hGl, hDl, cInode]); (repeat' ((with_reducible first | (refine Br.out ?_ ?_ <;> intro h <;> (try (have h0 := h; simp only [bH] at h))) | fail) <;> (try simp -implicitDefEqProofs (disch := first | exact dd | fail) [Try.f76, hlt, hGl, hDl, cInode])))
end Go.Proofs.Ytpofjodnljeegaa
