import Derived.Test.YtgopfdninbknpaaGreatP07c
namespace Go.Proofs.YtgopfdninbknpaaGreat
open Go.Fw
set_option linter.unusedVariables false
set_option linter.unusedSimpArgs false
theorem impl_SameInode0 (a : DInode) (n1 n2 n3 n4 n5 n6 : Option Bool) (h : SmI a) : Snd Tryz.prog 224 [fInode n1 n2 n3 a, .agg [.int .i64 0, .int .i64 0, .int .i64 0, .int .i64 0, .int .i64 0, .int .i64 0, .int .i64 0, .frz 1 n4 [], .frz 3 n5 [], .frz 3 n6 []]] (.bool (decide (a = zeroInode))) [.unk, .unk] :=
 impl_SameInode a zeroInode n1 n2 n3 n4 n5 n6 h
set_option maxHeartbeats 20000000 in
set_option maxRecDepth 8000 in
theorem impl_IsInode (n1 n2 n3 : Option Bool) (x : DInode) (hs : SmI x) : Snd Tryz.prog 153 [fInode n1 n2 n3 x] (.bool (isInode x)) [.unk] := Runs.snd (M := M) (c := ⟨1, [1, 2, 3, 4, 6, 7, 12, 81, 83, 84, 85, 86, 107], [12], [(2, [0, 1, 2, 6, 7, 12, 81, 83, 84, 85, 86, 107])]⟩) tok ks mixed Tryz.func153 (p := []) (by kernel_rfl) (by rfl) (by rfl) <| by
 have k1 := hs.blocks
 have k2 := hs.acl
 have k3 := hs.dflt
 have hfin : ∀ (hk : ¬ x.kind = 0), (x.kind = 1 ∨ x.kind = 2) → (0 ≤ x.mode ∧ x.mode ≤ 2047) → (0 ≤ x.uid ∧ x.uid < 4) → (0 ≤ x.gid ∧ x.gid < 4) → (0 ≤ x.links ∧ x.links ≤ 1000) → (0 ≤ x.size ∧ x.size ≤ 256) → (0 ≤ x.tick ∧ x.tick ≤ 1000000000) → (x.blocks.length : Int) = blocksNeeded x.size → (∀ i < x.blocks.length, BlkAt x.blocks i) → isAcl x.acl = true → isAcl x.dflt = true → isInode x = (decide (x.kind = 2) || (decide ((x.dflt.length : Int) = 0) && decide (iAnd x.mode 512 = 0))) := by
  intro hk h1 h2 h3 h4 h5 h6 h7 h8 h9 h10 h11
  rw [tr_iff] at h10 h11
  rw [Bool.eq_iff_iff, isInode_iff hk]
  simp only [Bool.or_eq_true, Bool.and_eq_true, decide_eq_true_eq, Int.natCast_eq_zero, List.length_eq_zero_iff]
  exact ⟨fun H => H.2.2.2.2.2.2.2.2.2.2.2, fun H => ⟨h1, h2, h3, h4, h5, h6, h7, h8, h9, h10, h11, H⟩⟩
 (try simp -implicitDefEqProofs (disch := first | exact dd | fail) [Tryz.f153]); (repeat' ((with_reducible first | (refine Br.out ?_ ?_ <;> intro h <;> (try (have h0 := h; simp only [bH] at h))) | refine AC_snd (impl_SameInode0 x _ _ _ _ _ _ hs) ?_ | refine AC_snd (impl_isMode _) ?_ | refine AC_snd (impl_isUser _) ?_ | refine AC_snd (impl_BlocksNeeded _ (by omega)) ?_ | refine AC_snd (impl_IsAcl _ _ k2) ?_ | refine AC_snd (impl_IsAcl _ _ k3) ?_ | fail) <;> (try simp -implicitDefEqProofs (disch := first | exact dd | fail) [Tryz.f153])))
 all_goals try exact isInode_no (by assumption) (fun H => by
  first
   | exact tr_not.1 (by assumption) H.acl
   | exact tr_not.1 (by assumption) H.dflt
   |(obtain ⟨h1, h2, h3, h4, h5, h6, h7, h8, -, -, -, -⟩ := H; omega))
 all_goals try (rw [Bool.eq_iff_iff, tr_iff, isInode_free (by assumption), decide_eq_true_eq]; done)
 all_goals try exact tr_no (fun H => by rcases H with rfl | H; exact absurd rfl (by assumption); have := H.kind; omega)
 all_goals
  have hk : ¬ x.kind = 0 := by assumption
  refine AL_for 85 x.blocks.length (fun i => ∀ k < i, BlkAt x.blocks k) rfl (fun k hk => absurd hk (Nat.not_lt_zero k)) (fun i n hlt he ih => ?_) (fun n he => ?_)
  ·have hz := blkAt_iff hlt
   obtain ⟨L, hL⟩ : ∃ L, L = x.blocks.take i := ⟨_, rfl⟩
   have hL' : List.take i (x.blocks.map ci) = L.map ci := by rw [hL, List.map_take]
   have hLl : L.length ≤ 1048576 := by rw [hL, List.length_take]; omega
   rw [← hL] at hz
   (try simp -implicitDefEqProofs (disch := first | exact dd | fail) [Tryz.f153, hlt, hL']); (repeat' ((with_reducible first | (refine Br.out ?_ ?_ <;> intro h <;> (try (have h0 := h; simp only [bH] at h))) | refine AC_snd (slices_Contains _ L _ hLl) ?_ | fail) <;> (try simp -implicitDefEqProofs (disch := first | exact dd | fail) [Tryz.f153, hlt, hL'])))
   all_goals first
    | exact isInode_blk hk hlt (by rw [hz]; rintro (h1 | ⟨h1, h2⟩) <;> first | omega | contradiction)
    | exact ih (lt_succ_all he (by rw [hz]; first | exact .inl (by assumption) | exact .inr ⟨by omega, by assumption⟩))
  ·(try simp -implicitDefEqProofs (disch := first | exact dd | fail) [Tryz.f153]); (repeat' ((with_reducible first | (refine Br.out ?_ ?_ <;> intro h <;> (try (have h0 := h; simp only [bH] at h))) | fail) <;> (try simp -implicitDefEqProofs (disch := first | exact dd | fail) [Tryz.f153])))
   all_goals (rw [hfin hk (by omega) (by omega) (by omega) (by omega) (by omega) (by omega) (by omega) (by assumption) he (by assumption) (by assumption)]; first | omega | (simp [*]; done) | (simp [*]; omega) | (rw [Bool.eq_iff_iff]; simp [*]; done) | (rw [Bool.eq_iff_iff]; simp [*]; omega))
end Go.Proofs.YtgopfdninbknpaaGreat
