import Derived.Test.YtgopfdninbknpaaGreatP07d
import Derived.Test.YtgopfdninbknpaaGreatBx
import Derived.Test.YtgopfdninbknpaaGreatM11
namespace Go.Proofs.YtgopfdninbknpaaGreat
open Go.Fw
set_option linter.unusedVariables false
set_option linter.unusedSimpArgs false
set_option maxHeartbeats 8000000 in
set_option maxRecDepth 8000 in
theorem impl_IsFS (n1 n2 n3 : Option Bool) (f : DFS) (hs : SmF f) : Snd Tryz.prog 74 [fFS n1 n2 n3 f] (.bool (isFS f)) [.unk] := Runs.snd (M := M) (c := ⟨1, [1, 2, 4, 6, 7, 9, 10, 11, 12, 13, 14, 40, 42, 43, 44, 45, 65, 68, 69, 70, 71, 76, 79, 80, 81, 82, 87, 89, 90, 91, 92, 97, 107, 127, 131, 132, 133, 134, 146], [], [(1, [0, 1, 2, 6, 7, 9, 10, 11, 12, 13, 14, 40, 42, 43, 44, 45, 65, 68, 69, 70, 71, 76, 79, 80, 81, 82, 87, 89, 90, 91, 92, 97, 107, 127, 131, 132, 133, 134, 146]), (3, [0, 1, 2, 4, 7, 9, 10, 11, 12, 13, 14, 40, 42, 43, 44, 45, 65, 68, 69, 70, 71, 76, 79, 80, 81, 82, 87, 89, 90, 91, 92, 97, 107, 127, 131, 132, 133, 134, 146]), (5, [0, 1, 2, 4, 6, 7, 13, 14, 40, 42, 43, 44, 45, 65, 68, 69, 70, 71, 76, 79, 80, 81, 82, 87, 92, 97, 107, 127, 131, 132, 133, 134, 146]), (6, [0, 1, 2, 4, 6, 7, 9, 13, 14, 40, 42, 43, 44, 45, 65, 68, 69, 70, 71, 76, 79, 80, 81, 82, 87, 89, 90, 91, 92, 97, 107, 127, 131, 132, 133, 134, 146]), (7, [0, 1, 2, 4, 6, 7, 9, 13, 14, 40, 42, 43, 44, 45, 65, 68, 69, 70, 71, 76, 79, 80, 81, 82, 87, 89, 90, 91, 92, 97, 107, 127, 131, 132, 133, 134, 146]), (9, [0, 1, 2, 4, 6, 7, 9, 10, 11, 12, 40, 42, 43, 44, 45, 65, 68, 69, 70, 71, 76, 79, 80, 81, 82, 87, 89, 90, 91, 92, 97, 107, 127, 131, 132, 133, 134, 146])]⟩) tok ks mixed Tryz.func74 (p := []) (by kernel_rfl) (by rfl) (by rfl) <| by
 (try simp -implicitDefEqProofs (disch := first | exact dd | fail) [Tryz.f74]); (repeat' ((with_reducible first | (refine Br.out ?_ ?_ <;> intro h <;> (try (have h0 := h; simp only [bH] at h))) | fail) <;> (try simp -implicitDefEqProofs (disch := first | exact dd | fail) [Tryz.f74])))
 all_goals try exact tr_no (fun H => by have := H.tick; have := H.nq; have := H.ni; have := H.nd; omega)
 refine AL_for 44 f.quotas.length (fun i => ∀ q ∈ f.quotas.take i, QuotaOK q) rfl (by simp) (fun i n hlt he ih => ?_) (fun n he => ?_)
 ·(try simp -implicitDefEqProofs (disch := first | exact dd | fail) [Tryz.f74, hlt]); (repeat' ((with_reducible first | (refine Br.out ?_ ?_ <;> intro h <;> (try (have h0 := h; simp only [bH] at h))) | fail) <;> (try simp -implicitDefEqProofs (disch := first | exact dd | fail) [Tryz.f74, hlt])))
  all_goals first
   | exact tr_no (fun H => by have := H.quota _ (List.getElem_mem hlt); unfold QuotaOK at this; omega)
   | exact ih (all_take_succ hlt he (by unfold QuotaOK; omega))
 have hq := all_take_len he
 (try simp -implicitDefEqProofs (disch := first | exact dd | fail) [Tryz.f74]); (repeat' ((with_reducible first | (refine Br.out ?_ ?_ <;> intro h <;> (try (have h0 := h; simp only [bH] at h))) | fail) <;> (try simp -implicitDefEqProofs (disch := first | exact dd | fail) [Tryz.f74])))
 refine AL_for 70 f.data.length (fun i => ∀ s ∈ f.data.take i, s.length = 32) rfl (by simp) (fun i n hlt he ih => ?_) (fun n he => ?_)
 ·(try simp -implicitDefEqProofs (disch := first | exact dd | fail) [Tryz.f74, hlt]); (repeat' ((with_reducible first | (refine Br.out ?_ ?_ <;> intro h <;> (try (have h0 := h; simp only [bH] at h))) | fail) <;> (try simp -implicitDefEqProofs (disch := first | exact dd | fail) [Tryz.f74, hlt])))
  all_goals first
   | exact tr_no (fun H => by have := H.secs _ (List.getElem_mem hlt); omega)
   | exact ih (all_take_succ hlt he (by omega))
 have hd := all_take_len he
 (try simp -implicitDefEqProofs (disch := first | exact dd | fail) [Tryz.f74]); (repeat' ((with_reducible first | (refine Br.out ?_ ?_ <;> intro h <;> (try (have h0 := h; simp only [bH] at h))) | fail) <;> (try simp -implicitDefEqProofs (disch := first | exact dd | fail) [Tryz.f74])))
 refine AL_fors (σ := Unit) 81 f.inodes.length (fun _ _ => []) (fun i _ => [(896, .box (bs (usedL (allB (f.inodes.take i)))))]) (fun i _ => (∀ n ∈ f.inodes.take i, IsInode n) ∧ (∀ n ∈ f.inodes.take i, OwnOK n ∧ TailOK f.data n) ∧ (allB (f.inodes.take i)).Nodup) () rfl (by simp [allB]) (fun i _ n hlt hi ih => ?_) (fun _ n hi => ?_)
 ·obtain ⟨hi1, hi2, hi3⟩ := hi
  have hsn := hs.inode _ (List.getElem_mem hlt)
  have hbl := hsn.blocks
  have hmem := List.getElem_mem hlt
  have hal := allB_take hlt
  generalize hx : f.inodes[i] = x at *
  (try simp -implicitDefEqProofs (disch := first | exact dd | fail) [Tryz.f74, hlt, hx, cInode]); (repeat' ((with_reducible first | (refine Br.out ?_ ?_ <;> intro h <;> (try (have h0 := h; simp only [bH] at h))) | refine AC_snd (impl_IsInode _ _ _ x hsn) ?_ | fail) <;> (try simp -implicitDefEqProofs (disch := first | exact dd | fail) [Tryz.f74, hlt, hx, cInode])))
  all_goals try exact tr_no (fun H : IsFS f => tr_not.1 (by assumption) (H.inode _ hmem))
  have hin : IsInode x := tr_iff.1 (by assumption)
  refine AL_fors (σ := Unit) 91 x.blocks.length (fun _ _ => []) (fun j _ => [(896, .box (bs (usedL (allB (f.inodes.take i) ++ real (x.blocks.take j)))))]) (fun j _ => (∀ b ∈ x.blocks.take j, b ≠ -1 → ownerOf b = x.uid) ∧ (allB (f.inodes.take i) ++ real (x.blocks.take j)).Nodup ∧ ∀ k < j, TailAt f.data x k) () (by simp [real]) ?_ (fun j _ n hjt hj jh => ?_) (fun _ n hj => ?_)
  ·simpa [real] using hi3
  ·obtain ⟨hj1, hj2, hj3⟩ := hj
   have hxo := inode_used hin (by omega)
   have hsz := hxo.size
   have hbs := blocks_size hxo hjt
   have hrt := real_take hjt
   by_cases hb : x.blocks[j] = -1
   ·rw [if_pos hb] at hrt
    have hi := jh () ⟨own_take hjt hj1 (fun e => absurd hb e), by rw [hrt]; exact hj2, lt_succ_all hj3 (fun b he e => by rw [List.getElem?_eq_getElem hjt] at he; cases he; exact absurd hb e)⟩
    simp only [hrt] at hi
    (try simp -implicitDefEqProofs (disch := first | exact dd | fail) [Tryz.f74, hlt, hjt, hx, hb, cInode]); (repeat' ((with_reducible first | (refine Br.out ?_ ?_ <;> intro h <;> (try (have h0 := h; simp only [bH] at h))) | fail) <;> (try simp -implicitDefEqProofs (disch := first | exact dd | fail) [Tryz.f74, hlt, hjt, hx, hb, cInode])))
    exact hi
   ·rw [if_neg hb] at hrt
    by_cases ho : ownerOf x.blocks[j] = x.uid
    ·have hbr := owner_range ho hxo.uid.1
     have hno : (allB f.inodes).Nodup → x.blocks[j] ∉ allB (f.inodes.take i) ++ real (x.blocks.take j) := by
      intro H
      have := once_no hlt (j := j) (by rw [hx]; exact hjt) (by simp only [hx]; exact hb) H
      simpa only [hx] using this
     have hta : TailOK f.data x → x.size - 32 * j < 32 → zeroStr ((f.data.getD x.blocks[j].toNat []).drop (x.size - 32 * j).toNat) = true := fun H e => tail_no hxo hjt e hb H
     have hj4 : (zeroStr ((f.data.getD x.blocks[j].toNat []).drop (x.size - 32 * j).toNat) = true ∨ ¬ x.size - 32 * j < 32) → TailAt f.data x j := by
      intro h1 b hg hb1 hs1
      rw [List.getElem?_eq_getElem hjt] at hg
      cases hg
      exact h1.resolve_right (fun e => e hs1)
     have hov := own_take hjt hj1 (fun _ => ho)
     obtain ⟨k, hbk⟩ := Int.eq_ofNat_of_zero_le hbr.1
     simp only [hbk] at hb ho hno hta hj4 hrt hbr
     have hk : k < 56 := by omega
     have hu := usedL_get (bs := allB (f.inodes.take i) ++ real (x.blocks.take j)) hk
     have hg := bs_get hu
     have hset := usedL_set (bs := allB (f.inodes.take i) ++ real (x.blocks.take j)) (b := (k : Int)) (by omega) (by omega)
     have hkd : k < f.data.length := by omega
     have hdl := hd _ (List.getElem_mem hkd)
     have hgd : f.data.getD k [] = f.data[k] := by simp [hkd]
     simp only [Int.toNat_natCast, hgd] at hta hj4 hset
     have e32 : 32 * (j : Int) = j * 32 := by omega
     rw [e32] at hta hj4 hbs
     have hb' : ¬ (k : Int) = -1 := by omega
     have htk : List.take (((f.data[k].length : Nat) : Int) - (x.size - (j : Int) * 32)).toNat (List.drop (x.size - (j : Int) * 32).toNat f.data[k]) = List.drop (x.size - (j : Int) * 32).toNat f.data[k] := List.take_of_length_le (by rw [List.length_drop]; omega)
     (try simp -implicitDefEqProofs (disch := first | exact dd | fail) [Tryz.f74, hlt, hjt, hx, hbk, hb', ho, hg, hset, hkd, htk, cInode]); (repeat' ((with_reducible first | (refine Br.out ?_ ?_ <;> intro h <;> (try (have h0 := h; simp only [bH] at h))) | refine AC_snd (impl_BlockOwner _) ?_ | refine AC_snd (impl_IsZeroes _ (by simp; omega)) ?_ | fail) <;> (try simp -implicitDefEqProofs (disch := first | exact dd | fail) [Tryz.f74, hlt, hjt, hx, hbk, hb', ho, hg, hset, hkd, htk, cInode])))
     all_goals first
      | exact tr_no (fun H : IsFS f => hno H.once (List.mem_append.2 (by assumption)))
      | exact tr_no (fun H : IsFS f => absurd (hta (H.tail x hmem) (by omega)) (by simp [*]))
      |(have hand : ¬ (k : Int) ∈ allB (List.take i f.inodes) ∧ ¬ (k : Int) ∈ real (List.take j x.blocks) := by assumption
        have hi := jh () ⟨hov, by rw [hrt, ← List.append_assoc]; exact nodup_snoc hj2 (fun hm => (List.mem_append.1 hm).elim hand.1 hand.2), lt_succ_all hj3 (hj4 (by first | exact .inl (by assumption) | exact .inr (by omega)))⟩
        simp only [hrt] at hi
        exact hi)
    ·(try simp -implicitDefEqProofs (disch := first | exact dd | fail) [Tryz.f74, hlt, hjt, hx, hb, ho, cInode]); (repeat' ((with_reducible first | (refine Br.out ?_ ?_ <;> intro h <;> (try (have h0 := h; simp only [bH] at h))) | refine AC_snd (impl_BlockOwner _) ?_ | fail) <;> (try simp -implicitDefEqProofs (disch := first | exact dd | fail) [Tryz.f74, hlt, hjt, hx, hb, ho, cInode])))
     exact tr_no (fun H : IsFS f => ho (H.own x hmem _ (List.getElem_mem hjt) hb))
  ·obtain ⟨hj1, hj2, hj3⟩ := hj
   rw [List.take_length] at hj1 hj2 ⊢
   have hi := ih () ⟨all_take_succ hlt hi1 (by rw [hx]; exact hin), all_take_succ hlt hi2 (by rw [hx]; exact ⟨hj1, tail_yes hin hd hj3⟩), by rw [hal]; exact hj2⟩
   simp only [hal] at hi
   (try simp -implicitDefEqProofs (disch := first | exact dd | fail) [Tryz.f74]); (repeat' ((with_reducible first | (refine Br.out ?_ ?_ <;> intro h <;> (try (have h0 := h; simp only [bH] at h))) | fail) <;> (try simp -implicitDefEqProofs (disch := first | exact dd | fail) [Tryz.f74])))
   exact hi
 ·rw [List.take_length] at hi ⊢
  obtain ⟨hi1, hi2, hi3⟩ := hi
  (try simp -implicitDefEqProofs (disch := first | exact dd | fail) [Tryz.f74]); (repeat' ((with_reducible first | (refine Br.out ?_ ?_ <;> intro h <;> (try (have h0 := h; simp only [bH] at h))) | fail) <;> (try simp -implicitDefEqProofs (disch := first | exact dd | fail) [Tryz.f74])))
  refine AL_for 133 f.data.length (fun i => ∀ k < i, ∀ s, f.data[k]? = some s → (k : Int) ∉ allB f.inodes → zeroStr s = true) rfl (fun k hk => absurd hk (Nat.not_lt_zero k)) (fun k n hkt hk kh => ?_) (fun n hk => ?_)
  ·have hu := usedL_get (bs := allB f.inodes) (show k < 56 by omega)
   have hg := bs_get hu
   have hdl := hd _ (List.getElem_mem hkt)
   (try simp -implicitDefEqProofs (disch := first | exact dd | fail) [Tryz.f74, hkt, hg]); (repeat' ((with_reducible first | (refine Br.out ?_ ?_ <;> intro h <;> (try (have h0 := h; simp only [bH] at h))) | refine AC_snd (impl_IsZeroes _ (by omega)) ?_ | fail) <;> (try simp -implicitDefEqProofs (disch := first | exact dd | fail) [Tryz.f74, hkt, hg])))
   all_goals first
    | exact tr_no (fun H : IsFS f => absurd (H.rest k _ (List.getElem?_eq_getElem hkt) (by assumption)) (by simp [*]))
    | exact kh (lt_succ_all hk (fun s hs' hn => by first | exact absurd (by assumption) hn | (rw [List.getElem?_eq_getElem hkt] at hs'; cases hs'; assumption)))
  ·have h0 : 0 < f.inodes.length := by omega
   (try simp -implicitDefEqProofs (disch := first | exact dd | fail) [Tryz.f74, h0, cInode]); (repeat' ((with_reducible first | (refine Br.out ?_ ?_ <;> intro h <;> (try (have h0 := h; simp only [bH] at h))) | fail) <;> (try simp -implicitDefEqProofs (disch := first | exact dd | fail) [Tryz.f74, h0, cInode])))
   all_goals
    rw [Bool.eq_iff_iff, decide_eq_true_eq, tr_iff]
    constructor
    ·intro hk2
     exact ⟨by omega, by omega, by omega, by omega, hq, hd, hi1, fun n hn => (hi2 n hn).1, hi3, fun n hn => (hi2 n hn).2, fun k s hs' hn => hk k (List.getElem?_eq_some_iff.1 hs').1 s hs' hn, fun n hn => by rw [List.getElem?_eq_getElem h0] at hn; cases hn; exact hk2⟩
    ·intro H
     exact H.root _ (List.getElem?_eq_getElem h0)
end Go.Proofs.YtgopfdninbknpaaGreat
