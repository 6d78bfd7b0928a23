import Derived.Test.YtiafmpcmmohdkaaGreatP08a
import Derived.Test.YtiafmpcmmohdkaaGreatP14c
import Derived.Test.YtiafmpcmmohdkaaGreatMA
namespace Go.Proofs.YtiafmpcmmohdkaaGreat
open Go.Fw
set_option linter.unusedVariables false
set_option linter.unusedSimpArgs false
set_option maxHeartbeats 4000000
set_option maxRecDepth 8000
theorem spec_l02Max (a b : Int) : Snd Tryz.prog 178 [.int .i64 a, .int .i64 b] (.int .i64 (max a b)) [.unk, .unk] := Runs.snd (M := M) (c := ⟨2, [4, 7], [], []⟩) tok ks mixed Tryz.func178 (p := []) (by kernel_rfl) (by rfl) (by rfl) <| by
 (try simp -implicitDefEqProofs (disch := first | exact dd | fail) [Tryz.f178]); (repeat' ((with_reducible first | (refine Br.out ?_ ?_ <;> intro h <;> (try (have h0 := h; simp only [bH] at h))) | fail) <;> (try simp -implicitDefEqProofs (disch := first | exact dd | fail) [Tryz.f178])))
 all_goals omega
theorem spec_l02Min (a b : Int) : Snd Tryz.prog 180 [.int .i64 a, .int .i64 b] (.int .i64 (min a b)) [.unk, .unk] := Runs.snd (M := M) (c := ⟨2, [4, 7], [], []⟩) tok ks mixed Tryz.func180 (p := []) (by kernel_rfl) (by rfl) (by rfl) <| by
 (try simp -implicitDefEqProofs (disch := first | exact dd | fail) [Tryz.f180]); (repeat' ((with_reducible first | (refine Br.out ?_ ?_ <;> intro h <;> (try (have h0 := h; simp only [bH] at h))) | fail) <;> (try simp -implicitDefEqProofs (disch := first | exact dd | fail) [Tryz.f180])))
 all_goals omega
theorem putS_take {old s : Str} {a k : Nat} (h : a + k < old.length) (hk : k < s.length) : (putS old a (a + k) (s.take k)).set (a + k) s[k] = putS old a (a + (k + 1)) (s.take (k + 1)) := by
 have hl : (old.take a ++ s.take k).length = a + k := by simp; omega
 have hd : old.drop (a + k) = old[a + k] :: old.drop (a + (k + 1)) := List.drop_eq_getElem_cons h
 unfold putS
 rw [hd, List.set_append_right _ _ (by omega), hl, Nat.sub_self, List.set_cons_zero, List.take_succ_eq_append_getElem hk]
 simp only [List.append_assoc, List.cons_append, List.nil_append]
theorem spec_l09Put (old s : Str) (a : Nat) (h : a + s.length ≤ old.length) (ho : old.length ≤ 1048576) : Snd Tryz.prog 181 [.str old, .int .i64 a, .str s] (.str (putS old a (a + s.length) s)) [.unk, .unk, .unk] := Runs.snd (M := M) (c := ⟨3, [6, 7, 8, 14], [], []⟩) tok ks mixed Tryz.func181 (p := []) (by kernel_rfl) (by rfl) (by rfl) <| by
 (try simp -implicitDefEqProofs (disch := first | exact dd | fail) [Tryz.f181, l2b]); (repeat' ((with_reducible first | (refine Br.out ?_ ?_ <;> intro h <;> (try (have h0 := h; simp only [bH] at h))) | fail) <;> (try simp -implicitDefEqProofs (disch := first | exact dd | fail) [Tryz.f181, l2b])))
 have h0 : old = putS old a (a + 0) (s.take 0) := by simp [putS]
 refine AL_fors (σ := Unit) 8 s.length (fun _ _ => []) (fun k _ => [(896, .row 1 ((putS old a (a + k) (s.take k)).map cu) [])]) (fun _ _ => True) () (by rw [← h0]; rfl) trivial (fun k _ n hk _ ih => ?_) (fun _ n _ => ?_)
 ·have hj := ih () trivial
  have hl : (putS old a (a + k) (s.take k)).length = old.length := by simp only [putS, List.length_append, List.length_take, List.length_drop]; omega
  rw [← putS_take (by omega) hk, List.map_set] at hj
  have hn : ((a : Int) + (k : Int)).toNat = a + k := by omega
  generalize putS old a (a + k) (s.take k) = U at *
  have hu : a + k < U.length := by omega
  (try simp -implicitDefEqProofs (disch := first | exact dd | fail) [Tryz.f181, hn, hu, hl, hk]); (repeat' ((with_reducible first | (refine Br.out ?_ ?_ <;> intro h <;> (try (have h0 := h; simp only [bH] at h))) | fail) <;> (try simp -implicitDefEqProofs (disch := first | exact dd | fail) [Tryz.f181, hn, hu, hl, hk])))
  all_goals first | exact hj
 ·rw [List.take_length]
  have hb := b2l (putS old a (a + s.length) s)
  have hl : (putS old a (a + s.length) s).length = old.length := by simp only [putS, List.length_append, List.length_take, List.length_drop]; omega
  have ht := takeM (f := cu) hl
  generalize putS old a (a + s.length) s = U at *
  (try simp -implicitDefEqProofs (disch := first | exact dd | fail) [Tryz.f181, hb, hl, ht]); (repeat' ((with_reducible first | (refine Br.out ?_ ?_ <;> intro h <;> (try (have h0 := h; simp only [bH] at h))) | fail) <;> (try simp -implicitDefEqProofs (disch := first | exact dd | fail) [Tryz.f181, hb, hl, ht])))
theorem spec_l09Write (n1 n2 n3 : Option Bool) (f : DFS) (i a : Int) (s : Str) (hs : SmF f) (hf : IsFS f) (hi : hasI f i = true) (hl : s.length ≤ 1048576) (ha : a ≤ 9223372036854775807) : Snd Tryz.prog 138 [fFS n1 n2 n3 f, .int .i64 i, .int .i64 a, .str s] (.tup [rFS (if (writeF f i a s).2 = 0 then (writeF f i a s).1 else f), .int .i64 (writeF f i a s).2]) [.unk, .unk, .unk, .unk] := Runs.snd (M := M) (c := ⟨4, [4, 8, 9, 10, 11, 12, 13, 14, 15, 16, 18, 25, 31, 53, 67, 75, 84], [], [(3, [0, 1, 2, 3, 4, 8, 9, 10, 11, 12, 18, 25, 31, 53, 67, 75, 84])]⟩) tok ks mixed Tryz.func138 (p := []) (by kernel_rfl) (by rfl) (by rfl) <| by
 have hi' := hasI_lt hi
 obtain ⟨I, rfl⟩ := Int.eq_ofNat_of_zero_le hi'.1
 have hI : I < 20 := by omega
 have hlt : I < f.inodes.length := by rw [hf.ni]; omega
 have he := inodeAt_nat hlt
 have hok := (isInode_ok hi'.2.2).1 (hf.sm _ ⟨hi'.1, hi'.2.1⟩)
 rw [he] at hok
 by_cases h1 : a < 0
 ·rw [writeF, if_pos h1, if_neg (by simp)]
  (try simp -implicitDefEqProofs (disch := first | exact dd | fail) [Tryz.f138, h1]); (repeat' ((with_reducible first | (refine Br.out ?_ ?_ <;> intro h <;> (try (have h0 := h; simp only [bH] at h))) | refine AC_snd (spec_l08Copy _ _ _ f hs) ?_ | fail) <;> (try simp -implicitDefEqProofs (disch := first | exact dd | fail) [Tryz.f138, h1])))
 obtain ⟨A, rfl⟩ := Int.eq_ofNat_of_zero_le (show 0 ≤ a by omega)
 by_cases h2 : 256 < (A : Int) + s.length
 ·rw [writeF, if_neg h1, if_pos h2, if_neg (by simp)]
  have h4 : (256 : Int) - s.length < A := by omega
  (try simp -implicitDefEqProofs (disch := first | exact dd | fail) [Tryz.f138, h1, h4]); (repeat' ((with_reducible first | (refine Br.out ?_ ?_ <;> intro h <;> (try (have h0 := h; simp only [bH] at h))) | refine AC_snd (spec_l08Copy _ _ _ f hs) ?_ | fail) <;> (try simp -implicitDefEqProofs (disch := first | exact dd | fail) [Tryz.f138, h1, h4])))
 have h4 : ¬ (256 : Int) - s.length < A := by omega
 by_cases h5 : s = []
 ·rw [writeF, if_neg h1, if_neg h2, if_pos h5, if_pos rfl]
  (try simp -implicitDefEqProofs (disch := first | exact dd | fail) [Tryz.f138, h1, h4, h5]); (repeat' ((with_reducible first | (refine Br.out ?_ ?_ <;> intro h <;> (try (have h0 := h; simp only [bH] at h))) | refine AC_snd (spec_l08Copy _ _ _ f hs) ?_ | fail) <;> (try simp -implicitDefEqProofs (disch := first | exact dd | fail) [Tryz.f138, h1, h4, h5])))
 rw [writeF, if_neg h1, if_neg h2, if_neg h5]
 simp only [Int.toNat_natCast]
 have hst := WI.start (e := (A : Int) + s.length) hs hf.nq hf.ni hI (used_inR hf.inode hf.own) (List.getElem?_eq_getElem hlt) hok (by omega) hf.nd hf.secs
 have hwv := WV.start (e := (A : Int) + s.length) hlt rfl hok (by omega) hf.own hf.once
 have hsl : 0 < s.length := List.length_pos_iff.2 h5
 have hbn := blocksNeeded_le (s := max f.inodes[I].size ((A : Int) + s.length)) (by have := hok.size; omega)
 have hbn0 := blocksNeeded_nn (s := max f.inodes[I].size ((A : Int) + s.length))
 have hxb := hok.blocks
 have hmono : blocksNeeded f.inodes[I].size ≤ blocksNeeded (max f.inodes[I].size ((A : Int) + s.length)) := by
  unfold blocksNeeded
  split <;> split <;> omega
 unfold writeL
 rw [he]
 unfold sized at hst hwv ⊢
 have hszr : max f.inodes[I].size ((A : Int) + s.length) ≤ 256 := by have := hok.size; omega
 have hend : (A : Int) + s.length ≤ max f.inodes[I].size ((A : Int) + s.length) := by omega
 have hmaxc := spec_l02Max f.inodes[I].size ((A : Int) + s.length)
 generalize max f.inodes[I].size ((A : Int) + s.length) = Z at *
 have hsn := hs.inode _ (List.getElem_mem hlt)
 (try simp -implicitDefEqProofs (disch := first | exact dd | fail) [Tryz.f138, h1, h4, h5, hlt, cInode]); (repeat' ((with_reducible first | (refine Br.out ?_ ?_ <;> intro h <;> (try (have h0 := h; simp only [bH] at h))) | refine AC_snd (spec_l08Copy _ _ _ f hs) ?_ | refine AC_snd (spec_l07Copy _ _ _ f.inodes[I] hsn) ?_ | refine AC_snd (hmaxc) ?_ | fail) <;> (try simp -implicitDefEqProofs (disch := first | exact dd | fail) [Tryz.f138, h1, h4, h5, hlt, cInode])))
 obtain ⟨Q, hQ⟩ := Int.eq_ofNat_of_zero_le hbn0
 rw [hQ] at hst hwv hmono hbn ⊢
 simp only [Int.toNat_natCast] at hst hwv ⊢
 have hxv : IsInode f.inodes[I] := .inr hok
 have hxs : f.inodes.set I f.inodes[I] = f.inodes := List.set_getElem_self hlt
 generalize hx : f.inodes[I] = x at *
 refine AL_up (fun (m : Nat) => Q - m) (fun _ => []) (fun (m : Nat) => [(1408, .box [.int .i64 x.kind, .int .i64 x.mode, .int .i64 x.uid, .int .i64 x.gid, .int .i64 x.links, .int .i64 Z, .int .i64 x.tick, .ref 1424 none 1 0 m none, .ref 1426 none 3 0 x.acl.length none, .ref 1428 none 3 0 x.dflt.length none]), (1424, .row 1 ((growB x.blocks m).map ci) [])]) (fun m => x.blocks.length ≤ m ∧ m ≤ Q) x.blocks.length (by simp [growB_zero (Nat.le_refl _)]) ⟨Nat.le_refl _, by omega⟩ ?_
 rintro m n ⟨hm0, hm1⟩ ih
 have hgl : (growB x.blocks m).length = m := by rw [growB_len]; omega
 rcases Nat.lt_or_ge m Q with hmq | hmq
 ·have hj := ih (m + 1) ⟨by omega, by omega⟩ (by omega)
  rw [growB_step hm0] at hj
  generalize growB x.blocks m = B at *
  have htk : List.take m (List.map ci B) = List.map ci B := List.take_of_length_le (by simp [hgl])
  simp only [List.map_append, List.map_cons, List.map_nil, ci] at hj
  (try simp -implicitDefEqProofs (disch := first | exact dd | fail) [Tryz.f138, hlt, hmq, hgl, hQ, htk, cInode]); (repeat' ((with_reducible first | (refine Br.out ?_ ?_ <;> intro h <;> (try (have h0 := h; simp only [bH] at h))) | refine AC_snd (spec_BlocksNeeded _ (by omega)) ?_ | fail) <;> (try simp -implicitDefEqProofs (disch := first | exact dd | fail) [Tryz.f138, hlt, hmq, hgl, hQ, htk, cInode])))
  all_goals first | exact hj
 obtain rfl : m = Q := by omega
 (try simp -implicitDefEqProofs (disch := first | exact dd | fail) [Tryz.f138, hlt, hgl, hQ, cInode]); (repeat' ((with_reducible first | (refine Br.out ?_ ?_ <;> intro h <;> (try (have h0 := h; simp only [bH] at h))) | refine AC_snd (spec_BlocksNeeded _ (by omega)) ?_ | fail) <;> (try simp -implicitDefEqProofs (disch := first | exact dd | fail) [Tryz.f138, hlt, hgl, hQ, cInode])))
 have hAd : (A : Int) / 32 = ((A / 32 : Nat) : Int) := by omega
 rw [hAd]
 obtain ⟨W, hW⟩ : ∃ W, W = wLoop f I A s (wSteps A s) (A / 32) { x with size := Z, blocks := growB x.blocks m } f.data := ⟨_, rfl⟩
 rw [← hW]
 have hmm : (A + s.length - 1) / 32 < m := by
  unfold blocksNeeded at hQ
  split at hQ <;> omega
 refine AL_up (ι := Nat × DInode × List Str × DInode) (fun y => (A + s.length) + 40 - y.1) (fun y => [(12, .int .i64 (y.1 : Int))]) (fun y => [(1286, .row 10 ((f.inodes.set I y.2.2.2).map cInode) []), (1288, .row 1 (y.2.2.1.map cs) []), (1408, .box [.int .i64 y.2.1.kind, .int .i64 y.2.1.mode, .int .i64 y.2.1.uid, .int .i64 y.2.1.gid, .int .i64 y.2.1.links, .int .i64 y.2.1.size, .int .i64 y.2.1.tick, .ref 1424 none 1 0 m none, .ref 1426 none 3 0 y.2.1.acl.length none, .ref 1428 none 3 0 y.2.1.dflt.length none]), (1424, .row 1 (y.2.1.blocks.map ci) []), (1426, .row 3 (y.2.1.acl.map cAcl) []), (1428, .row 3 (y.2.1.dflt.map cAcl) [])]) (fun y => WI f I m y.2.1 y.2.2.1 ∧ WV f.inodes I y.2.1 ∧ (IsInode y.2.2.2 ∧ real y.2.2.2.blocks = real y.2.1.blocks ∧ y.2.2.2.uid = y.2.1.uid ∧ SmI y.2.2.2) ∧ y.1 ≤ (A + s.length - 1) / 32 + 1 ∧ A < 32 * y.1 + 32 ∧ wLoop f I A s ((A + s.length - 1) / 32 + 1 - y.1) y.1 y.2.1 y.2.2.1 = W) (A / 32, { x with size := Z, blocks := growB x.blocks m }, f.data, x) (by simp [hxs]) ⟨hst, hwv, ⟨hxv, by simp only; exact real_growB.symm, rfl, hsn⟩, by simp only; omega, by simp only; omega, by rw [hW]; rfl⟩ ?_
 rintro ⟨k, N, D, O⟩ n ⟨hw, hv, ⟨hov, hor, hou, hos⟩, hk1, hk2, hwl⟩ ih
 simp only at hw hv hov hor hou hos hk1 hk2 hwl ⊢
 have hbl := hw.len
 have hac := hw.acl
 have hGget : ((f.inodes.set I O).map cInode)[I]? = some (cInode O) := by simp [hlt]
 have hGs : ∀ c, ((f.inodes.set I O).map cInode |>.set I c)[I]? = some c := fun c => by simp [hlt]
 have hGset : ∀ c, ((f.inodes.set I O).map cInode).set I (cInode c) = (f.inodes.set I c).map cInode := fun c => by simp [List.map_set]
 have hGl : (f.inodes.set I O).length = f.inodes.length := by rw [List.length_set]
 have hGl2 : (f.inodes.set I N).length = f.inodes.length := by rw [List.length_set]
 have hDl : D.length = f.data.length := by rw [hw.nd, hf.nd]
 have hnd := hw.nd
 have htG := takeM (f := cInode) hGl
 have htD := takeM (f := cs) hDl
 have hI20 : I < 20 := hI
 rcases Nat.lt_or_ge ((A + s.length - 1) / 32) k with hkt | hkt
 ·obtain rfl : k = (A + s.length - 1) / 32 + 1 := by omega
  rw [Nat.sub_self, wLoop] at hwl
  subst hwl
  have hGN := hGset N
  simp only [cInode] at hGN
  simp only [if_true]
  generalize f.inodes.set I O = G at *
  generalize f.inodes.set I N = G2 at *
  (try simp -implicitDefEqProofs (disch := first | exact dd | fail) [Tryz.f138, hlt, hGl, hGl2, hDl, hbl, hGN, cInode]); (repeat' ((with_reducible first | (refine Br.out ?_ ?_ <;> intro h <;> (try (have h0 := h; simp only [bH] at h))) | fail) <;> (try simp -implicitDefEqProofs (disch := first | exact dd | fail) [Tryz.f138, hlt, hGl, hGl2, hDl, hbl, hGN, cInode])))
 have hkl : k < N.blocks.length := by omega
 have hst2 : (A + s.length - 1) / 32 + 1 - k = ((A + s.length - 1) / 32 + 1 - (k + 1)) + 1 := by omega
 rw [hst2, wLoop] at hwl
 have hgd : N.blocks.getD k 0 = N.blocks[k] := by simp [hkl]
 have hal : allB (f.inodes.set I O) = allB (f.inodes.set I N) := allB_set_congr hlt hor
 have hin : ∀ m ∈ f.inodes.set I O, IsInode m := by
  intro m hm
  rcases List.mem_or_eq_of_mem_set hm with h6 | rfl
  ·exact hf.inode m h6
  ·exact hov
 have hus : UsedOK (f.inodes.set I O) := by
  refine ⟨fun m hm => ?_, by rw [hal]; exact hv.once⟩
  rcases List.mem_or_eq_of_mem_set hm with h6 | rfl
  ·exact hf.own m h6
  ·intro c hc hc1
   rw [hou]
   exact hv.own c (mem_real.1 (hor ▸ mem_real.2 ⟨hc, hc1⟩)).1 hc1
 have hsm : SmF ⟨f.tick, f.quotas, f.inodes.set I O, D⟩ := by
  refine ⟨hs.quotas, by simpa using hs.inodes, fun m hm => ?_, by simp only; omega⟩
  rcases List.mem_or_eq_of_mem_set hm with h6 | rfl
  ·exact hs.inode m h6
  ·exact hos
 have hnb : nextB ⟨f.tick, f.quotas, f.inodes.set I O, D⟩ N.uid = nextB ⟨f.tick, f.quotas, f.inodes.set I N, D⟩ N.uid := nextB_allB rfl hal
 have hnx := spec_l08NextBlock none none none ⟨f.tick, f.quotas, f.inodes.set I O, D⟩ N.uid hsm hin hus hw.uid hw.nq (by rw [List.length_set]; exact hw.ni)
 rw [hnb] at hnx
 have hwk : wBlk f I N k = if N.blocks[k] = -1 then nextB ⟨f.tick, f.quotas, f.inodes.set I N, D⟩ N.uid else (N.blocks[k], 0) := by
  rw [wBlk, hgd]
  rfl
 have hb1 : 32 * k ≤ wFrom A k ∧ A ≤ wFrom A k ∧ wFrom A k < wTo A k s ∧ wTo A k s ≤ A + s.length ∧ wTo A k s ≤ 32 * k + 32 := by
  unfold wFrom wTo
  omega
 have hmx := spec_l02Max (A : Int) ((k : Int) * 32)
 rw [show max (A : Int) ((k : Int) * 32) = ((wFrom A k : Nat) : Int) by unfold wFrom; omega] at hmx
 have hmn := spec_l02Min ((A : Int) + s.length) (((k : Int) + 1) * 32)
 rw [show min ((A : Int) + s.length) (((k : Int) + 1) * 32) = ((wTo A k s : Nat) : Int) by unfold wTo; omega] at hmn
 have hput : ∀ t : Str, t.length = 32 → Snd Tryz.prog 181 [.str t, .int .i64 ((wFrom A k : Int) - (k : Int) * 32), .str (List.take ((wTo A k s : Int) - (A : Int) - ((wFrom A k : Int) - (A : Int))).toNat (List.drop (wFrom A k - A) s))] (.str (putS t (wFrom A k - 32 * k) (wTo A k s - 32 * k) (wPart A k s))) [.unk, .unk, .unk] := fun t ht => by
  have e1 : (wFrom A k : Int) - (k : Int) * 32 = ((wFrom A k - 32 * k : Nat) : Int) := by omega
  have e2 : ((wTo A k s : Int) - (A : Int) - ((wFrom A k : Int) - (A : Int))).toNat = wTo A k s - wFrom A k := by omega
  have hpl : (wPart A k s).length = wTo A k s - wFrom A k := by
   rw [wPart, List.length_take, List.length_drop]
   omega
  rw [e1, e2, show wTo A k s - 32 * k = wFrom A k - 32 * k + (wPart A k s).length by omega]
  exact spec_l09Put t (wPart A k s) (wFrom A k - 32 * k) (by omega) (by omega)
 have hwd : ∀ b : Nat, b < D.length → (D.map cs).set b [.str (putS (D.getD b []) (wFrom A k - 32 * k) (wTo A k s - 32 * k) (wPart A k s))] = (wD D b A k s).map cs := fun b _ => by
  rw [wD, Int.toNat_natCast, List.map_set]
  rfl
 have hok2 := fun h0 => wBlk_ok hw (by omega : k < m) h0
 have hstep := fun h0 => hw.step (by omega : k < m) h0 hk2 (by omega : 32 * k < A + s.length)
 by_cases hb : N.blocks[k] = -1
 ·rw [if_pos hb] at hwk
  have hfree := nextB_ok (f := ⟨f.tick, f.quotas, f.inodes.set I N, D⟩) hw.uid
  generalize nextB ⟨f.tick, f.quotas, f.inodes.set I N, D⟩ N.uid = r at *
  rw [hwk] at hwl hok2 hstep
  obtain ⟨B, e⟩ := r
  simp only at hwl hok2 hstep hnx hfree
  by_cases he0 : e = 0
  ·subst he0
   obtain ⟨b, rfl, hb56, hbo, hbf⟩ := hfree rfl
   rw [if_pos rfl] at hwl
   have hv2 := hv.step hlt hkl hb hb56 hbo hbf
   have hs2 : SmI (wN N k b) := ⟨by simp only [wN, List.length_set]; omega, by simp only [wN]; omega, by simp only [wN]; omega⟩
   have hj := ih (k + 1, wN N k b, wD D b A k s, wN N k b) ⟨hstep rfl, hv2, ⟨.inr hv2.ok, rfl, rfl, hs2⟩, by simp only; omega, by simp only; omega, hwl⟩ (by simp only; omega)
   have hbD : b < D.length := by omega
   have hOl := hw.secs _ (List.getElem_mem hbD)
   have hwdb := hwd b hbD
   have hgd2 : D.getD b [] = D[b] := by simp [hbD]
   rw [hgd2] at hwdb
   obtain ⟨X, hX⟩ : ∃ X, D[b] = X := ⟨_, rfl⟩
   rw [hX] at hOl hwdb
   have hpx := hput X hOl
   have htb : List.take m ((N.blocks.map ci).set k [.int .i64 b]) = (N.blocks.map ci).set k [.int .i64 b] := List.take_of_length_le (by simp; omega)
   have hbs : ((N.blocks.map ci).set k [.int .i64 b])[k]? = some [.int .i64 (b : Int)] := by simp [hkl]
   have h6 : (List.map cInode (f.inodes.set I O)).set I [.int .i64 N.kind, .int .i64 N.mode, .int .i64 N.uid, .int .i64 N.gid, .int .i64 N.links, .int .i64 N.size, .int .i64 N.tick, .row 1 ((List.map ci N.blocks).set k [.int .i64 b]), .row 3 (N.acl.map cAcl), .row 3 (N.dflt.map cAcl)] = (f.inodes.set I (wN N k b)).map cInode := by
    rw [← hGset (wN N k b)]
    simp only [cInode, wN, List.map_set, ci]
   have hcp := spec_l07Copy none none none (wN N k b) hs2
   simp only [fInode, rInode, wN, List.map_set, ci] at hcp
   have h7 : (N.blocks.map ci).set k [.int .i64 (b : Int)] = (wN N k b).blocks.map ci := by simp only [wN, List.map_set, ci]
   simp only at hj
   rw [← h6, ← hwdb, ← h7] at hj
   simp only [wN] at hj
   generalize f.inodes.set I O = G at *
   (try simp -implicitDefEqProofs (disch := first | exact dd | fail) [Tryz.f138, hlt, hkl, hkt, hGget, hGs, hbs, htb, hX, hOl, htG, htD, hGl, hDl, hnd, hbl, hb, hb56, cInode]); (repeat' ((with_reducible first | (refine Br.out ?_ ?_ <;> intro h <;> (try (have h0 := h; simp only [bH] at h))) | refine AC_snd (hnx) ?_ | refine AC_snd (hcp) ?_ | refine AC_snd (hmx) ?_ | refine AC_snd (hmn) ?_ | refine AC_snd (hpx) ?_ | fail) <;> (try simp -implicitDefEqProofs (disch := first | exact dd | fail) [Tryz.f138, hlt, hkl, hkt, hGget, hGs, hbs, htb, hX, hOl, htG, htD, hGl, hDl, hnd, hbl, hb, hb56, cInode])))
   all_goals first | exact hj
  ·rw [if_neg he0] at hwl
   subst hwl
   simp only [he0, if_false]
   generalize f.inodes.set I O = G at *
   (try simp -implicitDefEqProofs (disch := first | exact dd | fail) [Tryz.f138, hlt, hkl, hkt, hGget, htG, htD, hGl, hDl, hbl, hb, he0, cInode]); (repeat' ((with_reducible first | (refine Br.out ?_ ?_ <;> intro h <;> (try (have h0 := h; simp only [bH] at h))) | refine AC_snd (hnx) ?_ | refine AC_snd (spec_l08Copy _ _ _ f hs) ?_ | fail) <;> (try simp -implicitDefEqProofs (disch := first | exact dd | fail) [Tryz.f138, hlt, hkl, hkt, hGget, htG, htD, hGl, hDl, hbl, hb, he0, cInode])))
 ·rw [if_neg hb] at hwk
  rw [hwk, if_pos rfl] at hwl
  rw [hwk] at hok2 hstep
  obtain ⟨b, hbk, hb56⟩ := hok2 rfl
  simp only at hbk hstep
  have hj := ih (k + 1, wN N k N.blocks[k], wD D N.blocks[k] A k s, O) ⟨hstep trivial, by rw [wN_same hkl rfl]; exact hv, ⟨hov, by simp only; rw [wN_same hkl rfl]; exact hor, by simp only; rw [wN_same hkl rfl]; exact hou, hos⟩, by simp only; omega, by simp only; omega, hwl⟩ (by simp only; omega)
  rw [wN_same hkl rfl] at hj
  rw [hbk] at hj
  have hb' : ¬ (b : Int) = -1 := by omega
  have hbD : b < D.length := by omega
  have hOl := hw.secs _ (List.getElem_mem hbD)
  have hwdb := hwd b hbD
  have hgd2 : D.getD b [] = D[b] := by simp [hbD]
  rw [hgd2] at hwdb
  obtain ⟨X, hX⟩ : ∃ X, D[b] = X := ⟨_, rfl⟩
  rw [hX] at hOl hwdb
  have hpx := hput X hOl
  simp only at hj
  rw [← hwdb] at hj
  generalize f.inodes.set I O = G at *
  (try simp -implicitDefEqProofs (disch := first | exact dd | fail) [Tryz.f138, hlt, hkl, hkt, hGget, hbk, hb', hX, hOl, htG, htD, hGl, hDl, hnd, hbl, hb56, cInode]); (repeat' ((with_reducible first | (refine Br.out ?_ ?_ <;> intro h <;> (try (have h0 := h; simp only [bH] at h))) | refine AC_snd (hmx) ?_ | refine AC_snd (hmn) ?_ | refine AC_snd (hpx) ?_ | fail) <;> (try simp -implicitDefEqProofs (disch := first | exact dd | fail) [Tryz.f138, hlt, hkl, hkt, hGget, hbk, hb', hX, hOl, htG, htD, hGl, hDl, hnd, hbl, hb56, cInode])))
  all_goals first | exact hj
end Go.Proofs.YtiafmpcmmohdkaaGreat
