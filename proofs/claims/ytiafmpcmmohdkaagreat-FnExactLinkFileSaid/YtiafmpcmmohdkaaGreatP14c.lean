import Derived.Test.YtiafmpcmmohdkaaGreatMA
import Derived.Test.YtiafmpcmmohdkaaGreatP14a
namespace Go.Proofs.YtiafmpcmmohdkaaGreat
open Go.Fw
set_option linter.unusedVariables false
set_option linter.unusedSimpArgs false
set_option maxHeartbeats 4000000
set_option maxRecDepth 8000
theorem impl_write (f : DFS) (i a : Int) (s : Str) (hs : SmF f) (hf : IsFS f) (hi : hasI f i = true) (hl : s.length ≤ 1048576) (ha : a ≤ 9223372036854775807) : Snd Tryz.prog 144 [wFS f, .int .i64 i, .int .i64 a, .str s] (.int .i64 (writeF f i a s).2) [wFS (writeF f i a s).1, .unk, .unk, .unk] := Runs.snd (M := M) (c := ⟨4, [8, 9, 10, 11, 12, 13, 14, 15, 16, 17, 18, 21, 31, 63, 79, 89, 100], [], [(4, [0, 1, 2, 3, 8, 9, 10, 11, 18, 21, 31, 63, 79, 89, 100])]⟩) tok ks mixed Tryz.func144 (p := [0]) (by kernel_rfl) (by rfl) (by rfl) <| by
 have hi' := hasI_lt hi
 obtain ⟨I, rfl⟩ := Int.eq_ofNat_of_zero_le hi'.1
 have hI : I < 20 := by omega
 have hlt : I < f.inodes.length := by rw [hf.ni]; omega
 have he := inodeAt_nat hlt
 have hok := (isInode_ok hi'.2.2).1 (hf.sm _ ⟨hi'.1, hi'.2.1⟩)
 rw [he] at hok
 by_cases h1 : a < 0
 ·rw [writeF, if_pos h1]
  (try simp -implicitDefEqProofs (disch := first | exact dd | fail) [Tryz.f144, h1]); (repeat' ((with_reducible first | (refine Br.out ?_ ?_ <;> intro h <;> (try (have h0 := h; simp only [bH] at h))) | fail) <;> (try simp -implicitDefEqProofs (disch := first | exact dd | fail) [Tryz.f144, h1])))
 obtain ⟨A, rfl⟩ := Int.eq_ofNat_of_zero_le (show 0 ≤ a by omega)
 by_cases h2 : 256 < (A : Int) + s.length
 ·rw [writeF, if_neg h1, if_pos h2]
  by_cases h3 : (256 : Int) < A
  ·(try simp -implicitDefEqProofs (disch := first | exact dd | fail) [Tryz.f144, h1, h3]); (repeat' ((with_reducible first | (refine Br.out ?_ ?_ <;> intro h <;> (try (have h0 := h; simp only [bH] at h))) | fail) <;> (try simp -implicitDefEqProofs (disch := first | exact dd | fail) [Tryz.f144, h1, h3])))
  ·have h4 : (256 : Int) - A < s.length := by omega
   (try simp -implicitDefEqProofs (disch := first | exact dd | fail) [Tryz.f144, h1, h3, h4]); (repeat' ((with_reducible first | (refine Br.out ?_ ?_ <;> intro h <;> (try (have h0 := h; simp only [bH] at h))) | fail) <;> (try simp -implicitDefEqProofs (disch := first | exact dd | fail) [Tryz.f144, h1, h3, h4])))
 have h3 : ¬ (256 : Int) < A := by omega
 have h4 : ¬ (256 : Int) - A < s.length := by omega
 by_cases h5 : s = []
 ·rw [writeF, if_neg h1, if_neg h2, if_pos h5]
  (try simp -implicitDefEqProofs (disch := first | exact dd | fail) [Tryz.f144, h1, h3, h4, h5]); (repeat' ((with_reducible first | (refine Br.out ?_ ?_ <;> intro h <;> (try (have h0 := h; simp only [bH] at h))) | fail) <;> (try simp -implicitDefEqProofs (disch := first | exact dd | fail) [Tryz.f144, h1, h3, h4, h5])))
 rw [writeF, if_neg h1, if_neg h2, if_neg h5]
 simp only [Int.toNat_natCast]
 have hst := WI.start (e := (A : Int) + s.length) hs hf.nq hf.ni hI (used_inR hf.inode hf.own) (List.getElem?_eq_getElem hlt) hok (by omega) hf.nd hf.secs
 have hsl : 0 < s.length := List.length_pos_iff.2 h5
 have hmx : (if f.inodes[I].size < (A : Int) + s.length then (A : Int) + s.length else f.inodes[I].size) = max f.inodes[I].size ((A : Int) + s.length) := by
  split <;> omega
 have hbn := blocksNeeded_le (s := max f.inodes[I].size ((A : Int) + s.length)) (by have := hok.size; omega)
 have hbn0 := blocksNeeded_nn (s := max f.inodes[I].size ((A : Int) + s.length))
 have hxb := hok.blocks
 have hmono : blocksNeeded f.inodes[I].size ≤ blocksNeeded (max f.inodes[I].size ((A : Int) + s.length)) := by
  unfold blocksNeeded
  split <;> split <;> omega
 unfold writeL
 rw [he]
 unfold sized at hst ⊢
 (try simp -implicitDefEqProofs (disch := first | exact dd | fail) [Tryz.f144, h1, h3, h4, h5, hlt, hmx, cInode]); (repeat' ((with_reducible first | (refine Br.out ?_ ?_ <;> intro h <;> (try (have h0 := h; simp only [bH] at h))) | fail) <;> (try simp -implicitDefEqProofs (disch := first | exact dd | fail) [Tryz.f144, h1, h3, h4, h5, hlt, hmx, cInode])))
 have hszr : max f.inodes[I].size ((A : Int) + s.length) ≤ 256 := by have := hok.size; omega
 have hend : (A : Int) + s.length ≤ max f.inodes[I].size ((A : Int) + s.length) := by omega
 generalize max f.inodes[I].size ((A : Int) + s.length) = Z at *
 obtain ⟨Q, hQ⟩ := Int.eq_ofNat_of_zero_le hbn0
 rw [hQ] at hst hmono hbn ⊢
 simp only [Int.toNat_natCast] at hst ⊢
 generalize hx : f.inodes[I] = x at *
 have hgs : ∀ c, ((f.inodes.map cInode).set I c)[I]? = some c := fun c => by simp [hlt]
 refine AL_up (fun (m : Nat) => Q - m) (fun _ => []) (fun (m : Nat) => [(6, .row 10 ((f.inodes.map cInode).set I (cInode { x with size := Z, blocks := growB x.blocks m })) [])]) (fun m => x.blocks.length ≤ m ∧ m ≤ Q) x.blocks.length (by simp [growB_zero (Nat.le_refl _), cInode]) ⟨Nat.le_refl _, by omega⟩ ?_
 rintro m n ⟨hm0, hm1⟩ ih
 have hgl : (growB x.blocks m).length = m := by rw [growB_len]; omega
 rcases Nat.lt_or_ge m Q with hmq | hmq
 ·have hj := ih (m + 1) ⟨by omega, by omega⟩ (by omega)
  rw [growB_step hm0] at hj
  generalize growB x.blocks m = B at *
  have htk : List.take m (List.map ci B) = List.map ci B := List.take_of_length_le (by simp [hgl])
  simp only [cInode, List.map_append, List.map_cons, List.map_nil, ci] at hj
  (try simp -implicitDefEqProofs (disch := first | exact dd | fail) [Tryz.f144, hlt, hgs, hmq, hgl, hQ, htk, cInode]); (repeat' ((with_reducible first | (refine Br.out ?_ ?_ <;> intro h <;> (try (have h0 := h; simp only [bH] at h))) | refine AC_snd (impl_BlocksNeeded _ (by omega)) ?_ | fail) <;> (try simp -implicitDefEqProofs (disch := first | exact dd | fail) [Tryz.f144, hlt, hgs, hmq, hgl, hQ, htk, cInode])))
  all_goals first | exact hj
 obtain rfl : m = Q := by omega
 (try simp -implicitDefEqProofs (disch := first | exact dd | fail) [Tryz.f144, hlt, hgs, hgl, hQ, cInode]); (repeat' ((with_reducible first | (refine Br.out ?_ ?_ <;> intro h <;> (try (have h0 := h; simp only [bH] at h))) | refine AC_snd (impl_BlocksNeeded _ (by omega)) ?_ | fail) <;> (try simp -implicitDefEqProofs (disch := first | exact dd | fail) [Tryz.f144, hlt, hgs, hgl, hQ, cInode])))
 have hAd : (A : Int) / 32 = ((A / 32 : Nat) : Int) := by omega
 rw [hAd]
 obtain ⟨W, hW⟩ : ∃ W, W = wLoop f I A s (wSteps A s) (A / 32) { x with size := Z, blocks := growB x.blocks m } f.data := ⟨_, rfl⟩
 rw [← hW]
 have hmm : (A + s.length - 1) / 32 < m := by
  unfold blocksNeeded at hQ
  split at hQ <;> omega
 refine AL_up (ι := Nat × DInode × List Str) (fun y => wSteps 0 (s ++ s) + (A + s.length) + 40 - y.1) (fun y => [(11, .int .i64 (y.1 : Int))]) (fun y => [(6, .row 10 ((f.inodes.set I y.2.1).map cInode) []), (8, .row 1 (y.2.2.map cs) [])]) (fun y => WI f I m y.2.1 y.2.2 ∧ y.1 ≤ (A + s.length - 1) / 32 + 1 ∧ A < 32 * y.1 + 32 ∧ wLoop f I A s ((A + s.length - 1) / 32 + 1 - y.1) y.1 y.2.1 y.2.2 = W) (A / 32, { x with size := Z, blocks := growB x.blocks m }, f.data) (by simp [cInode, List.map_set]) ⟨hst, by simp only; omega, by simp only; omega, by rw [hW]; rfl⟩ ?_
 rintro ⟨k, N, D⟩ n ⟨hw, hk1, hk2, hwl⟩ ih
 simp only at hw hk1 hk2 hwl ⊢
 have hsm := hw.smF
 have hir := hw.inR
 have hbl := hw.len
 have hac := hw.acl
 have hGget : ((f.inodes.set I N).map cInode)[I]? = some (cInode N) := by simp [hlt]
 have hGs : ∀ c, ((f.inodes.set I N).map cInode |>.set I c)[I]? = some c := fun c => by simp [hlt]
 have hbs : ∀ c, (k < N.blocks.length) → ((N.blocks.map ci).set k c)[k]? = some c := fun c h => by simp [h]
 have hDg : ∀ b : Nat, b < 56 → (D.map cs)[b]? = some (cs (D.getD b [])) := fun b h => by simp [show b < D.length by rw [hw.nd]; exact h]
 have hGset : ∀ c, ((f.inodes.set I N).map cInode).set I (cInode c) = (f.inodes.set I c).map cInode := fun c => by simp [List.map_set]
 have hGl : (f.inodes.set I N).length = f.inodes.length := by rw [List.length_set]
 have hDl : D.length = f.data.length := by rw [hw.nd, hf.nd]
 have hnd := hw.nd
 have htG := takeM (f := cInode) hGl
 have htD := takeM (f := cs) hDl
 have hI20 : I < 20 := hI
 rcases Nat.lt_or_ge ((A + s.length - 1) / 32) k with hkt | hkt
 ·obtain rfl : k = (A + s.length - 1) / 32 + 1 := by omega
  rw [Nat.sub_self, wLoop] at hwl
  subst hwl
  generalize f.inodes.set I N = G at *
  (try simp -implicitDefEqProofs (disch := first | exact dd | fail) [Tryz.f144, hlt, hGl, hDl, cInode]); (repeat' ((with_reducible first | (refine Br.out ?_ ?_ <;> intro h <;> (try (have h0 := h; simp only [bH] at h))) | fail) <;> (try simp -implicitDefEqProofs (disch := first | exact dd | fail) [Tryz.f144, hlt, hGl, hDl, cInode])))
 have hkl : k < N.blocks.length := by omega
 have hst2 : (A + s.length - 1) / 32 + 1 - k = ((A + s.length - 1) / 32 + 1 - (k + 1)) + 1 := by omega
 rw [hst2, wLoop] at hwl
 have hgd : N.blocks.getD k 0 = N.blocks[k] := by simp [hkl]
 have hwk : wBlk f I N k = if N.blocks[k] = -1 then nextB ⟨f.tick, f.quotas, f.inodes.set I N, D⟩ N.uid else (N.blocks[k], 0) := by
  rw [wBlk, hgd]
  rfl
 have hfr : (if (A : Int) < (k : Int) * 32 then (k : Int) * 32 else (A : Int)) = ((wFrom A k : Nat) : Int) := by
  unfold wFrom
  split <;> omega
 have hto : (if (k : Int) * 32 + 32 < (A : Int) + s.length then (k : Int) * 32 + 32 else (A : Int) + s.length) = ((wTo A k s : Nat) : Int) := by
  unfold wTo
  split <;> omega
 have hb1 : 32 * k ≤ wFrom A k ∧ A ≤ wFrom A k ∧ wFrom A k < wTo A k s ∧ wTo A k s ≤ A + s.length ∧ wTo A k s ≤ 32 * k + 32 := by
  unfold wFrom wTo
  omega
 have hnx := impl_nextBlock none none none ⟨f.tick, f.quotas, f.inodes.set I N, D⟩ N.uid hsm hir hw.uid hw.nq
 have hok2 := fun h0 => wBlk_ok hw (by omega : k < m) h0
 have hstep := fun h0 => hw.step (by omega : k < m) h0 hk2 (by omega : 32 * k < A + s.length)
 by_cases hb : N.blocks[k] = -1
 ·rw [if_pos hb] at hwk
  generalize nextB ⟨f.tick, f.quotas, f.inodes.set I N, D⟩ N.uid = r at *
  rw [hwk] at hwl hok2 hstep
  obtain ⟨B, e⟩ := r
  simp only at hwl hok2 hstep hnx
  by_cases he0 : e = 0
  ·subst he0
   obtain ⟨b, rfl, hb56⟩ := hok2 rfl
   rw [if_pos rfl] at hwl
   have hj := ih (k + 1, wN N k b, wD D b A k s) ⟨hstep rfl, by simp only; omega, by simp only; omega, hwl⟩ (by simp only; omega)
   generalize f.inodes.set I N = G at *
   have hbs := fun c => hbs c hkl
   have hbD : b < D.length := by omega
   have hOl := hw.secs _ (List.getElem_mem hbD)
   obtain ⟨O, hO⟩ : ∃ O, D[b] = O := ⟨_, rfl⟩
   rw [hO] at hOl
   (try simp -implicitDefEqProofs (disch := first | exact dd | fail) [Tryz.f144, hlt, hkl, hkt, hGget, hGs, hbs, hO, hOl, htG, htD, hGl, hDl, hnd, hb, hb56, hfr, hto, cInode]); (repeat' ((with_reducible first | (refine Br.out ?_ ?_ <;> intro h <;> (try (have h0 := h; simp only [bH] at h))) | refine AC_snd (hnx) ?_ | fail) <;> (try simp -implicitDefEqProofs (disch := first | exact dd | fail) [Tryz.f144, hlt, hkl, hkt, hGget, hGs, hbs, hO, hOl, htG, htD, hGl, hDl, hnd, hb, hb56, hfr, hto, cInode])))
   have h6 : (List.map cInode G).set I [.int .i64 N.kind, .int .i64 N.mode, .int .i64 N.uid, .int .i64 N.gid, .int .i64 N.links, .int .i64 N.size, .int .i64 N.tick, .row 1 ((List.map ci N.blocks).set k [.int .i64 b]), .row 3 (N.acl.map cAcl), .row 3 (N.dflt.map cAcl)] = (f.inodes.set I (wN N k b)).map cInode := by
    rw [← hGset (wN N k b)]
    simp only [cInode, wN, List.map_set, ci]
   have h8 := wD_cells hbD hO hOl hb1
   rw [← h6, ← h8] at hj
   all_goals first | exact hj
  ·rw [if_neg he0] at hwl
   subst hwl
   generalize f.inodes.set I N = G at *
   (try simp -implicitDefEqProofs (disch := first | exact dd | fail) [Tryz.f144, hlt, hkl, hkt, hGget, htG, htD, hGl, hDl, hb, he0, cInode]); (repeat' ((with_reducible first | (refine Br.out ?_ ?_ <;> intro h <;> (try (have h0 := h; simp only [bH] at h))) | refine AC_snd (hnx) ?_ | fail) <;> (try simp -implicitDefEqProofs (disch := first | exact dd | fail) [Tryz.f144, hlt, hkl, hkt, hGget, htG, htD, hGl, hDl, hb, he0, cInode])))
 ·rw [if_neg hb] at hwk
  rw [hwk, if_pos rfl] at hwl
  rw [hwk] at hok2 hstep
  obtain ⟨b, hbk, hb56⟩ := hok2 rfl
  simp only at hbk hstep
  have hj := ih (k + 1, wN N k N.blocks[k], wD D N.blocks[k] A k s) ⟨hstep trivial, by simp only; omega, by simp only; omega, hwl⟩ (by simp only; omega)
  rw [wN_same hkl rfl] at hj
  rw [hbk] at hj
  have hb' : ¬ (b : Int) = -1 := by omega
  have hbD : b < D.length := by omega
  have hOl := hw.secs _ (List.getElem_mem hbD)
  obtain ⟨O, hO⟩ : ∃ O, D[b] = O := ⟨_, rfl⟩
  rw [hO] at hOl
  generalize f.inodes.set I N = G at *
  (try simp -implicitDefEqProofs (disch := first | exact dd | fail) [Tryz.f144, hlt, hkl, hkt, hGget, hO, hOl, hbk, hb', htG, htD, hGl, hDl, hnd, hb56, hfr, hto, cInode]); (repeat' ((with_reducible first | (refine Br.out ?_ ?_ <;> intro h <;> (try (have h0 := h; simp only [bH] at h))) | fail) <;> (try simp -implicitDefEqProofs (disch := first | exact dd | fail) [Tryz.f144, hlt, hkl, hkt, hGget, hO, hOl, hbk, hb', htG, htD, hGl, hDl, hnd, hb56, hfr, hto, cInode])))
  have h8 := wD_cells hbD hO hOl hb1
  simp only at hj
  rw [← h8] at hj
  all_goals first | exact hj
end Go.Proofs.YtiafmpcmmohdkaaGreat
