import Derived.Test.YtpofjodnljeegaaM14
import Derived.Test.YtpofjodnljeegaaP11a
namespace Go.Proofs.Ytpofjodnljeegaa
open Go.Fw
set_option linter.unusedVariables false
set_option linter.unusedSimpArgs false
set_option maxHeartbeats 4000000
set_option maxRecDepth 8000
theorem impl_taken (n1 n2 n3 : Option Bool) (f : DFS) (hs : SmF f) (hr : InR f.inodes) : Snd Try.prog 144 [pFS n1 n2 n3 f] (.row 1 ((usedL (allB f.inodes)).map cb)) [.unk] := Runs.snd (M := M) (c := ⟨1, [2, 3, 5, 7, 12, 13, 14, 15, 19, 20, 21, 22], [], [(1, [0, 2, 3, 12, 13, 14, 15, 22]), (2, [0, 2, 3, 5, 12, 13, 14, 15, 19, 20, 21, 22]), (3, [0, 2, 3, 5, 12, 13, 14, 15, 19, 20, 21, 22])]⟩) tok ks mixed Try.func144 (p := []) (by kernel_rfl) (by rfl) (by rfl) <| by
 have k2 := hs.inodes
 (try simp -implicitDefEqProofs (disch := first | exact dd | fail) [Try.f144]); (repeat' ((with_reducible first | (refine Br.out ?_ ?_ <;> intro h <;> (try (have h0 := h; simp only [bH] at h))) | fail) <;> (try simp -implicitDefEqProofs (disch := first | exact dd | fail) [Try.f144])))
 refine AL_fors (σ := Unit) 14 f.inodes.length (fun _ _ => []) (fun i _ => [(384, .row 1 ((usedL (allB (f.inodes.take i))).map cb) [])]) (fun i _ => True) () (by simp [allB, usedL_nil, cb]) trivial (fun i _ n hlt _ ih => ?_) (fun _ n _ => ?_)
 ·have hsn := hs.inode _ (List.getElem_mem hlt)
  have hbl := hsn.blocks
  have hal := allB_take hlt
  have hrr := hr _ (List.getElem_mem hlt)
  generalize hx : f.inodes[i] = x at *
  have hrl := real_len (l := x.blocks)
  (try simp -implicitDefEqProofs (disch := first | exact dd | fail) [Try.f144, hlt, hx, cInode]); (repeat' ((with_reducible first | (refine Br.out ?_ ?_ <;> intro h <;> (try (have h0 := h; simp only [bH] at h))) | refine AC_snd (impl_UsedBlocks _ _ _ x hsn) ?_ | fail) <;> (try simp -implicitDefEqProofs (disch := first | exact dd | fail) [Try.f144, hlt, hx, cInode])))
  have hR : ∀ b ∈ real x.blocks, 0 ≤ b ∧ b < 56 := fun b hb => hrr b (mem_real.1 hb).1 (mem_real.1 hb).2
  have hi := ih () trivial
  rw [hal] at hi
  generalize real x.blocks = B at *
  refine AL_fors (σ := Unit) 21 B.length (fun _ _ => []) (fun j _ => [(384, .row 1 ((usedL (allB (f.inodes.take i) ++ B.take j)).map cb) [])]) (fun j _ => True) () (by simp) trivial (fun j _ n hjt _ jh => ?_) (fun _ n _ => ?_)
  ·have hb := hR _ (List.getElem_mem hjt)
   have hset := usedL_set (bs := allB (f.inodes.take i) ++ B.take j) hb.1 hb.2
   have hlu : (usedL (allB (f.inodes.take i) ++ B.take j)).length = 56 := usedL_len
   obtain ⟨k, hbk⟩ := Int.eq_ofNat_of_zero_le hb.1
   rw [List.append_assoc, ← List.take_succ_eq_append_getElem hjt] at hset
   have hj := jh () trivial
   rw [← hset, List.map_set] at hj
   simp only [hbk, Int.toNat_natCast] at hj hb
   have hk : k < 56 := by omega
   obtain ⟨o, ho⟩ : ∃ o, ((usedL (allB (f.inodes.take i) ++ B.take j)).map cb)[k]? = some [.bool o] := ⟨_, by rw [List.getElem?_map, List.getElem?_eq_getElem (by omega)]; rfl⟩
   generalize (usedL (allB (f.inodes.take i) ++ B.take j)).map cb = U at *
   (try simp -implicitDefEqProofs (disch := first | exact dd | fail) [Try.f144, hjt, hbk, ho]); (repeat' ((with_reducible first | (refine Br.out ?_ ?_ <;> intro h <;> (try (have h0 := h; simp only [bH] at h))) | fail) <;> (try simp -implicitDefEqProofs (disch := first | exact dd | fail) [Try.f144, hjt, hbk, ho])))
   all_goals first | exact hj
  ·rw [List.take_length]
   (try simp -implicitDefEqProofs (disch := first | exact dd | fail) [Try.f144]); (repeat' ((with_reducible first | (refine Br.out ?_ ?_ <;> intro h <;> (try (have h0 := h; simp only [bH] at h))) | fail) <;> (try simp -implicitDefEqProofs (disch := first | exact dd | fail) [Try.f144])))
   all_goals first | exact hi
 ·rw [List.take_length]
  (try simp -implicitDefEqProofs (disch := first | exact dd | fail) [Try.f144]); (repeat' ((with_reducible first | (refine Br.out ?_ ?_ <;> intro h <;> (try (have h0 := h; simp only [bH] at h))) | fail) <;> (try simp -implicitDefEqProofs (disch := first | exact dd | fail) [Try.f144])))
theorem impl_blocks (n1 n2 n3 : Option Bool) (f : DFS) (u : Int) (hs : SmF f) (hr : InR f.inodes) (hu : IsUser u) : Snd Try.prog 143 [pFS n1 n2 n3 f, .int .i64 u] (.int .i64 (poolT (allB f.inodes) (14 * u.toNat) 14)) [.unk, .unk] := Runs.snd (M := M) (c := ⟨2, [4, 5, 7, 15, 16, 17, 18, 21], [], [(1, [0, 1, 4, 5, 15, 16, 17, 18, 21])]⟩) tok ks mixed Try.func143 (p := []) (by kernel_rfl) (by rfl) (by rfl) <| by
 obtain ⟨k, rfl⟩ := Int.eq_ofNat_of_zero_le hu.1
 have hk : k < 4 := by omega
 (try simp -implicitDefEqProofs (disch := first | exact dd | fail) [Try.f143]); (repeat' ((with_reducible first | (refine Br.out ?_ ?_ <;> intro h <;> (try (have h0 := h; simp only [bH] at h))) | refine AC_snd (impl_taken _ _ _ f hs hr) ?_ | fail) <;> (try simp -implicitDefEqProofs (disch := first | exact dd | fail) [Try.f143])))
 have hget := fun j => usedL_get (bs := allB f.inodes) (k := j)
 have hlu : (usedL (allB f.inodes)).length = 56 := usedL_len
 generalize usedL (allB f.inodes) = U at *
 have e1 : ((k : Int) * 14).toNat = 14 * k := by omega
 have e2 : ((k : Int) + 1) * 14 - (k : Int) * 14 = 14 := by omega
 have e3 : max (14 : Int) 0 = 14 := rfl
 simp only [e1, e2, e3]
 refine AL_fors (σ := Unit) 17 14 (fun j _ => [(5, .int .i64 (poolT (allB f.inodes) (14 * k) j))]) (fun j _ => []) (fun j _ => True) () rfl trivial (fun j _ n hjt _ jh => ?_) (fun _ n _ => ?_)
 ·have hj := jh () trivial
  have hg := hget (14 * k + j) (by omega)
  have hl := poolT_le (B := allB f.inodes) (lo := 14 * k) (n := j)
  rw [poolT_succ (n := j)] at hj
  generalize poolT (allB f.inodes) (14 * k) j = p at *
  by_cases hm : ((14 * k + j : Nat) : Int) ∈ allB f.inodes
  ·rw [decide_eq_true hm] at hg
   rw [if_pos hm] at hj
   have hgv := (List.getElem?_eq_some_iff.1 hg).2
   (try simp -implicitDefEqProofs (disch := first | exact dd | fail) [Try.f143, hjt, hg, hgv, hlu, cb]); (repeat' ((with_reducible first | (refine Br.out ?_ ?_ <;> intro h <;> (try (have h0 := h; simp only [bH] at h))) | fail) <;> (try simp -implicitDefEqProofs (disch := first | exact dd | fail) [Try.f143, hjt, hg, hgv, hlu, cb])))
   all_goals first | exact hj
  ·rw [decide_eq_false hm] at hg
   rw [if_neg hm] at hj
   have hgv := (List.getElem?_eq_some_iff.1 hg).2
   (try simp -implicitDefEqProofs (disch := first | exact dd | fail) [Try.f143, hjt, hg, hgv, hlu, cb]); (repeat' ((with_reducible first | (refine Br.out ?_ ?_ <;> intro h <;> (try (have h0 := h; simp only [bH] at h))) | fail) <;> (try simp -implicitDefEqProofs (disch := first | exact dd | fail) [Try.f143, hjt, hg, hgv, hlu, cb])))
   all_goals first | exact hj
 ·(try simp -implicitDefEqProofs (disch := first | exact dd | fail) [Try.f143]); (repeat' ((with_reducible first | (refine Br.out ?_ ?_ <;> intro h <;> (try (have h0 := h; simp only [bH] at h))) | fail) <;> (try simp -implicitDefEqProofs (disch := first | exact dd | fail) [Try.f143])))
theorem impl_nextBlock (n1 n2 n3 : Option Bool) (f : DFS) (u : Int) (hs : SmF f) (hr : InR f.inodes) (hu : IsUser u) (hq : f.quotas.length = 4) : Snd Try.prog 114 [pFS n1 n2 n3 f, .int .i64 u] (.tup [.int .i64 (nextB f u).1, .int .i64 (nextB f u).2]) [.unk, .unk] := Runs.snd (M := M) (c := ⟨2, [4, 5, 6, 7, 19, 28, 35], [], []⟩) tok ks mixed Try.func114 (p := []) (by kernel_rfl) (by rfl) (by rfl) <| by
 have hb := impl_blocks n1 n2 n3 f u hs hr hu
 obtain ⟨k, rfl⟩ := Int.eq_ofNat_of_zero_le hu.1
 have hk : k < 4 := by omega
 have hkq : k < f.quotas.length := by omega
 have hq2 := quotaAt_nat hkq
 simp only [Int.toNat_natCast] at hb
 unfold nextB
 simp only [hq2, Int.toNat_natCast]
 by_cases hc : f.quotas[k].blocks ≤ ((poolT (allB f.inodes) (14 * k) 14 : Nat) : Int)
 ·rw [if_pos hc]
  (try simp -implicitDefEqProofs (disch := first | exact dd | fail) [Try.f114, hkq, hc, cQuota]); (repeat' ((with_reducible first | (refine Br.out ?_ ?_ <;> intro h <;> (try (have h0 := h; simp only [bH] at h))) | refine AC_snd (hb) ?_ | fail) <;> (try simp -implicitDefEqProofs (disch := first | exact dd | fail) [Try.f114, hkq, hc, cQuota])))
 rw [if_neg hc]
 have hget := fun j => usedL_get (bs := allB f.inodes) (k := j)
 have hlu : (usedL (allB f.inodes)).length = 56 := usedL_len
 have ht := impl_taken n1 n2 n3 f hs hr
 generalize usedL (allB f.inodes) = U at *
 (try simp -implicitDefEqProofs (disch := first | exact dd | fail) [Try.f114, hkq, hc, hlu, cQuota]); (repeat' ((with_reducible first | (refine Br.out ?_ ?_ <;> intro h <;> (try (have h0 := h; simp only [bH] at h))) | refine AC_snd (hb) ?_ | refine AC_snd (ht) ?_ | fail) <;> (try simp -implicitDefEqProofs (disch := first | exact dd | fail) [Try.f114, hkq, hc, hlu, cQuota])))
 have e1 : (k : Int) * 14 = ((14 * k : Nat) : Int) := by omega
 rw [e1]
 refine AL_up (fun q => 14 * k + 14 - q) (fun (q : Nat) => [(7, .int .i64 (q : Int))]) (fun _ => []) (fun q => (14 * k ≤ q ∧ q ≤ 14 * k + 14) ∧ nextFree (allB f.inodes) q (14 * k + 14 - q) = nextFree (allB f.inodes) (14 * k) 14) (14 * k) rfl ⟨by omega, by rw [show 14 * k + 14 - 14 * k = 14 by omega]⟩ ?_
 rintro q n ⟨⟨hq0, hq1⟩, he⟩ ih
 rcases Nat.lt_or_ge q (14 * k + 14) with hjt | hjt
 ·have hg := hget q (by omega)
  have hst : nextFree (allB f.inodes) q (14 * k + 14 - q) = if (q : Int) ∈ allB f.inodes then nextFree (allB f.inodes) (q + 1) (14 * k + 14 - (q + 1)) else ((q : Int), 0) := by
   rw [show 14 * k + 14 - q = (14 * k + 14 - (q + 1)) + 1 by omega, nextFree]
  by_cases hm : (q : Int) ∈ allB f.inodes
  ·rw [decide_eq_true hm] at hg
   rw [if_pos hm] at hst
   have hi := ih (q + 1) ⟨by omega, by rw [← hst]; exact he⟩ (by omega)
   have hgv := (List.getElem?_eq_some_iff.1 hg).2
   (try simp -implicitDefEqProofs (disch := first | exact dd | fail) [Try.f114, hg, hgv, hlu, cb, hjt]); (repeat' ((with_reducible first | (refine Br.out ?_ ?_ <;> intro h <;> (try (have h0 := h; simp only [bH] at h))) | fail) <;> (try simp -implicitDefEqProofs (disch := first | exact dd | fail) [Try.f114, hg, hgv, hlu, cb, hjt])))
   all_goals first | exact hi
  ·rw [decide_eq_false hm] at hg
   rw [if_neg hm] at hst
   rw [← he, hst]
   have hgv := (List.getElem?_eq_some_iff.1 hg).2
   (try simp -implicitDefEqProofs (disch := first | exact dd | fail) [Try.f114, hg, hgv, hlu, cb, hjt]); (repeat' ((with_reducible first | (refine Br.out ?_ ?_ <;> intro h <;> (try (have h0 := h; simp only [bH] at h))) | fail) <;> (try simp -implicitDefEqProofs (disch := first | exact dd | fail) [Try.f114, hg, hgv, hlu, cb, hjt])))
 ·obtain rfl : q = 14 * k + 14 := by omega
  rw [← he, Nat.sub_self, nextFree]
  (try simp -implicitDefEqProofs (disch := first | exact dd | fail) [Try.f114, hlu, cb]); (repeat' ((with_reducible first | (refine Br.out ?_ ?_ <;> intro h <;> (try (have h0 := h; simp only [bH] at h))) | fail) <;> (try simp -implicitDefEqProofs (disch := first | exact dd | fail) [Try.f114, hlu, cb])))
end Go.Proofs.Ytpofjodnljeegaa
