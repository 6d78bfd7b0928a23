import Derived.Test.YtiafmpcmmohdkaaGreatMA
import Derived.Test.YtiafmpcmmohdkaaGreatP12
import Derived.Test.YtiafmpcmmohdkaaGreatP08c
namespace Go.Proofs.YtiafmpcmmohdkaaGreat
open Go.Fw
set_option linter.unusedVariables false
set_option linter.unusedSimpArgs false
set_option maxHeartbeats 4000000
set_option maxRecDepth 8000
theorem impl_taken (n1 n2 n3 : Option Bool) (f : DFS) (hs : SmF f) (hr : InR f.inodes) : Snd Tryz.prog 208 [pFS n1 n2 n3 f] (.row 1 ((usedL (allB f.inodes)).map cb)) [.unk] := Runs.snd (M := M) (c := ⟨1, [2, 3, 5, 7, 12, 13, 14, 15, 19, 20, 21, 22], [], [(1, [0, 2, 3, 12, 13, 14, 15, 22]), (2, [0, 2, 3, 5, 12, 13, 14, 15, 19, 20, 21, 22]), (3, [0, 2, 3, 5, 12, 13, 14, 15, 19, 20, 21, 22])]⟩) tok ks mixed Tryz.func208 (p := []) (by kernel_rfl) (by rfl) (by rfl) <| by
 have k2 := hs.inodes
 (try simp -implicitDefEqProofs (disch := first | exact dd | fail) [Tryz.f208]); (repeat' ((with_reducible first | (refine Br.out ?_ ?_ <;> intro h <;> (try (have h0 := h; simp only [bH] at h))) | fail) <;> (try simp -implicitDefEqProofs (disch := first | exact dd | fail) [Tryz.f208])))
 refine AL_fors (σ := Unit) 14 f.inodes.length (fun _ _ => []) (fun i _ => [(384, .row 1 ((usedL (allB (f.inodes.take i))).map cb) [])]) (fun i _ => True) () (by simp [allB, usedL_nil, cb]) trivial (fun i _ n hlt _ ih => ?_) (fun _ n _ => ?_)
 ·have hsn := hs.inode _ (List.getElem_mem hlt)
  have hbl := hsn.blocks
  have hal := allB_take hlt
  have hrr := hr _ (List.getElem_mem hlt)
  generalize hx : f.inodes[i] = x at *
  have hrl := real_len (l := x.blocks)
  (try simp -implicitDefEqProofs (disch := first | exact dd | fail) [Tryz.f208, hlt, hx, cInode]); (repeat' ((with_reducible first | (refine Br.out ?_ ?_ <;> intro h <;> (try (have h0 := h; simp only [bH] at h))) | refine AC_snd (impl_UsedBlocks _ _ _ x hsn) ?_ | fail) <;> (try simp -implicitDefEqProofs (disch := first | exact dd | fail) [Tryz.f208, hlt, hx, cInode])))
  have hR : ∀ b ∈ real x.blocks, 0 ≤ b ∧ b < 56 := fun b hb => hrr b (mem_real.1 hb).1 (mem_real.1 hb).2
  have hi := ih () trivial
  rw [hal] at hi
  generalize real x.blocks = B at *
  refine AL_fors (σ := Unit) 21 B.length (fun _ _ => []) (fun j _ => [(384, .row 1 ((usedL (allB (f.inodes.take i) ++ B.take j)).map cb) [])]) (fun j _ => True) () (by simp) trivial (fun j _ n hjt _ jh => ?_) (fun _ n _ => ?_)
  ·have hb := hR _ (List.getElem_mem hjt)
   have hset := usedL_set (bs := allB (f.inodes.take i) ++ B.take j) hb.1 hb.2
   have hlu : (usedL (allB (f.inodes.take i) ++ B.take j)).length = 56 := usedL_len
   obtain ⟨k, hbk⟩ := Int.eq_ofNat_of_zero_le hb.1
   rw [List.append_assoc, ← List.take_succ_eq_append_getElem hjt] at hset
   have hj := jh () trivial
   rw [← hset, List.map_set] at hj
   simp only [hbk, Int.toNat_natCast] at hj hb
   have hk : k < 56 := by omega
   obtain ⟨o, ho⟩ : ∃ o, ((usedL (allB (f.inodes.take i) ++ B.take j)).map cb)[k]? = some [.bool o] := ⟨_, by rw [List.getElem?_map, List.getElem?_eq_getElem (by omega)]; rfl⟩
   generalize (usedL (allB (f.inodes.take i) ++ B.take j)).map cb = U at *
   (try simp -implicitDefEqProofs (disch := first | exact dd | fail) [Tryz.f208, hjt, hbk, ho]); (repeat' ((with_reducible first | (refine Br.out ?_ ?_ <;> intro h <;> (try (have h0 := h; simp only [bH] at h))) | fail) <;> (try simp -implicitDefEqProofs (disch := first | exact dd | fail) [Tryz.f208, hjt, hbk, ho])))
   all_goals first | exact hj
  ·rw [List.take_length]
   (try simp -implicitDefEqProofs (disch := first | exact dd | fail) [Tryz.f208]); (repeat' ((with_reducible first | (refine Br.out ?_ ?_ <;> intro h <;> (try (have h0 := h; simp only [bH] at h))) | fail) <;> (try simp -implicitDefEqProofs (disch := first | exact dd | fail) [Tryz.f208])))
   all_goals first | exact hi
 ·rw [List.take_length]
  (try simp -implicitDefEqProofs (disch := first | exact dd | fail) [Tryz.f208]); (repeat' ((with_reducible first | (refine Br.out ?_ ?_ <;> intro h <;> (try (have h0 := h; simp only [bH] at h))) | fail) <;> (try simp -implicitDefEqProofs (disch := first | exact dd | fail) [Tryz.f208])))
theorem impl_blocks (n1 n2 n3 : Option Bool) (f : DFS) (u : Int) (hs : SmF f) (hr : InR f.inodes) (hu : IsUser u) : Snd Tryz.prog 207 [pFS n1 n2 n3 f, .int .i64 u] (.int .i64 (poolT (allB f.inodes) (14 * u.toNat) 14)) [.unk, .unk] := Runs.snd (M := M) (c := ⟨2, [4, 5, 7, 15, 16, 17, 18, 21], [], [(1, [0, 1, 4, 5, 15, 16, 17, 18, 21])]⟩) tok ks mixed Tryz.func207 (p := []) (by kernel_rfl) (by rfl) (by rfl) <| by
 obtain ⟨k, rfl⟩ := Int.eq_ofNat_of_zero_le hu.1
 have hk : k < 4 := by omega
 (try simp -implicitDefEqProofs (disch := first | exact dd | fail) [Tryz.f207]); (repeat' ((with_reducible first | (refine Br.out ?_ ?_ <;> intro h <;> (try (have h0 := h; simp only [bH] at h))) | refine AC_snd (impl_taken _ _ _ f hs hr) ?_ | fail) <;> (try simp -implicitDefEqProofs (disch := first | exact dd | fail) [Tryz.f207])))
 have hget := fun j => usedL_get (bs := allB f.inodes) (k := j)
 have hlu : (usedL (allB f.inodes)).length = 56 := usedL_len
 generalize usedL (allB f.inodes) = U at *
 have e1 : ((k : Int) * 14).toNat = 14 * k := by omega
 have e2 : ((k : Int) + 1) * 14 - (k : Int) * 14 = 14 := by omega
 have e3 : max (14 : Int) 0 = 14 := rfl
 simp only [e1, e2, e3]
 refine AL_fors (σ := Unit) 17 14 (fun j _ => [(5, .int .i64 (poolT (allB f.inodes) (14 * k) j))]) (fun j _ => []) (fun j _ => True) () rfl trivial (fun j _ n hjt _ jh => ?_) (fun _ n _ => ?_)
 ·have hj := jh () trivial
  have hg := hget (14 * k + j) (by omega)
  have hl := poolT_le (B := allB f.inodes) (lo := 14 * k) (n := j)
  rw [poolT_succ (n := j)] at hj
  generalize poolT (allB f.inodes) (14 * k) j = p at *
  by_cases hm : ((14 * k + j : Nat) : Int) ∈ allB f.inodes
  ·rw [decide_eq_true hm] at hg
   rw [if_pos hm] at hj
   have hgv := (List.getElem?_eq_some_iff.1 hg).2
   (try simp -implicitDefEqProofs (disch := first | exact dd | fail) [Tryz.f207, hjt, hg, hgv, hlu, cb]); (repeat' ((with_reducible first | (refine Br.out ?_ ?_ <;> intro h <;> (try (have h0 := h; simp only [bH] at h))) | fail) <;> (try simp -implicitDefEqProofs (disch := first | exact dd | fail) [Tryz.f207, hjt, hg, hgv, hlu, cb])))
   all_goals first | exact hj
  ·rw [decide_eq_false hm] at hg
   rw [if_neg hm] at hj
   have hgv := (List.getElem?_eq_some_iff.1 hg).2
   (try simp -implicitDefEqProofs (disch := first | exact dd | fail) [Tryz.f207, hjt, hg, hgv, hlu, cb]); (repeat' ((with_reducible first | (refine Br.out ?_ ?_ <;> intro h <;> (try (have h0 := h; simp only [bH] at h))) | fail) <;> (try simp -implicitDefEqProofs (disch := first | exact dd | fail) [Tryz.f207, hjt, hg, hgv, hlu, cb])))
   all_goals first | exact hj
 ·(try simp -implicitDefEqProofs (disch := first | exact dd | fail) [Tryz.f207]); (repeat' ((with_reducible first | (refine Br.out ?_ ?_ <;> intro h <;> (try (have h0 := h; simp only [bH] at h))) | fail) <;> (try simp -implicitDefEqProofs (disch := first | exact dd | fail) [Tryz.f207])))
theorem impl_nextBlock (n1 n2 n3 : Option Bool) (f : DFS) (u : Int) (hs : SmF f) (hr : InR f.inodes) (hu : IsUser u) (hq : f.quotas.length = 4) : Snd Tryz.prog 185 [pFS n1 n2 n3 f, .int .i64 u] (.tup [.int .i64 (nextB f u).1, .int .i64 (nextB f u).2]) [.unk, .unk] := Runs.snd (M := M) (c := ⟨2, [4, 5, 6, 7, 19, 28, 35], [], []⟩) tok ks mixed Tryz.func185 (p := []) (by kernel_rfl) (by rfl) (by rfl) <| by
 have hb := impl_blocks n1 n2 n3 f u hs hr hu
 obtain ⟨k, rfl⟩ := Int.eq_ofNat_of_zero_le hu.1
 have hk : k < 4 := by omega
 have hkq : k < f.quotas.length := by omega
 have hq2 := quotaAt_nat hkq
 simp only [Int.toNat_natCast] at hb
 unfold nextB
 simp only [hq2, Int.toNat_natCast]
 by_cases hc : f.quotas[k].blocks ≤ ((poolT (allB f.inodes) (14 * k) 14 : Nat) : Int)
 ·rw [if_pos hc]
  (try simp -implicitDefEqProofs (disch := first | exact dd | fail) [Tryz.f185, hkq, hc, cQuota]); (repeat' ((with_reducible first | (refine Br.out ?_ ?_ <;> intro h <;> (try (have h0 := h; simp only [bH] at h))) | refine AC_snd (hb) ?_ | fail) <;> (try simp -implicitDefEqProofs (disch := first | exact dd | fail) [Tryz.f185, hkq, hc, cQuota])))
 rw [if_neg hc]
 have hget := fun j => usedL_get (bs := allB f.inodes) (k := j)
 have hlu : (usedL (allB f.inodes)).length = 56 := usedL_len
 have ht := impl_taken n1 n2 n3 f hs hr
 generalize usedL (allB f.inodes) = U at *
 (try simp -implicitDefEqProofs (disch := first | exact dd | fail) [Tryz.f185, hkq, hc, hlu, cQuota]); (repeat' ((with_reducible first | (refine Br.out ?_ ?_ <;> intro h <;> (try (have h0 := h; simp only [bH] at h))) | refine AC_snd (hb) ?_ | refine AC_snd (ht) ?_ | fail) <;> (try simp -implicitDefEqProofs (disch := first | exact dd | fail) [Tryz.f185, hkq, hc, hlu, cQuota])))
 have e1 : (k : Int) * 14 = ((14 * k : Nat) : Int) := by omega
 rw [e1]
 refine AL_up (fun q => 14 * k + 14 - q) (fun (q : Nat) => [(7, .int .i64 (q : Int))]) (fun _ => []) (fun q => (14 * k ≤ q ∧ q ≤ 14 * k + 14) ∧ nextFree (allB f.inodes) q (14 * k + 14 - q) = nextFree (allB f.inodes) (14 * k) 14) (14 * k) rfl ⟨by omega, by rw [show 14 * k + 14 - 14 * k = 14 by omega]⟩ ?_
 rintro q n ⟨⟨hq0, hq1⟩, he⟩ ih
 rcases Nat.lt_or_ge q (14 * k + 14) with hjt | hjt
 ·have hg := hget q (by omega)
  have hst : nextFree (allB f.inodes) q (14 * k + 14 - q) = if (q : Int) ∈ allB f.inodes then nextFree (allB f.inodes) (q + 1) (14 * k + 14 - (q + 1)) else ((q : Int), 0) := by
   rw [show 14 * k + 14 - q = (14 * k + 14 - (q + 1)) + 1 by omega, nextFree]
  by_cases hm : (q : Int) ∈ allB f.inodes
  ·rw [decide_eq_true hm] at hg
   rw [if_pos hm] at hst
   have hi := ih (q + 1) ⟨by omega, by rw [← hst]; exact he⟩ (by omega)
   have hgv := (List.getElem?_eq_some_iff.1 hg).2
   (try simp -implicitDefEqProofs (disch := first | exact dd | fail) [Tryz.f185, hg, hgv, hlu, cb, hjt]); (repeat' ((with_reducible first | (refine Br.out ?_ ?_ <;> intro h <;> (try (have h0 := h; simp only [bH] at h))) | fail) <;> (try simp -implicitDefEqProofs (disch := first | exact dd | fail) [Tryz.f185, hg, hgv, hlu, cb, hjt])))
   all_goals first | exact hi
  ·rw [decide_eq_false hm] at hg
   rw [if_neg hm] at hst
   rw [← he, hst]
   have hgv := (List.getElem?_eq_some_iff.1 hg).2
   (try simp -implicitDefEqProofs (disch := first | exact dd | fail) [Tryz.f185, hg, hgv, hlu, cb, hjt]); (repeat' ((with_reducible first | (refine Br.out ?_ ?_ <;> intro h <;> (try (have h0 := h; simp only [bH] at h))) | fail) <;> (try simp -implicitDefEqProofs (disch := first | exact dd | fail) [Tryz.f185, hg, hgv, hlu, cb, hjt])))
 ·obtain rfl : q = 14 * k + 14 := by omega
  rw [← he, Nat.sub_self, nextFree]
  (try simp -implicitDefEqProofs (disch := first | exact dd | fail) [Tryz.f185, hlu, cb]); (repeat' ((with_reducible first | (refine Br.out ?_ ?_ <;> intro h <;> (try (have h0 := h; simp only [bH] at h))) | fail) <;> (try simp -implicitDefEqProofs (disch := first | exact dd | fail) [Tryz.f185, hlu, cb])))
set_option maxHeartbeats 4000000
set_option maxRecDepth 8000
theorem ownN_le {u : Int} {B : List Int} : ownN u B ≤ B.length := List.length_filter_le _ _
theorem allB_len {ns : List DInode} (h : ∀ n ∈ ns, n.blocks.length ≤ 1048576) : (allB ns).length ≤ 1048576 * ns.length := by
 induction ns with
 | nil => simp [allB]
 | cons n ns ih =>
  have h1 := ih (fun m hm => h m (List.mem_cons_of_mem _ hm))
  have h2 := h n (List.mem_cons_self ..)
  have h3 := real_len (l := n.blocks)
  rw [allB, List.flatMap_cons, List.length_append, ← allB, List.length_cons]
  omega
theorem spec_l08Blocks (n1 n2 n3 : Option Bool) (f : DFS) (u : Int) (hs : SmF f) (hn : f.inodes.length = 20) : Snd Tryz.prog 206 [fFS n1 n2 n3 f, .int .i64 u] (.int .i64 (ownN u (allB f.inodes))) [.unk, .unk] := Runs.snd (M := M) (c := ⟨2, [2, 4, 5, 7, 9, 11, 12, 13, 14, 18, 19, 20, 21, 31], [], [(1, [0, 1, 2, 4, 5, 11, 12, 13, 14, 21, 31]), (2, [0, 1, 2, 4, 5, 7, 11, 12, 13, 14, 18, 19, 20, 21, 31]), (3, [0, 1, 2, 4, 5, 7, 11, 12, 13, 14, 18, 19, 20, 21, 31])]⟩) tok ks mixed Tryz.func206 (p := []) (by kernel_rfl) (by rfl) (by rfl) <| by
 have hbd : ∀ (i : Nat), (allB (f.inodes.take i)).length ≤ 1048576 * 20 := fun i => by
  have h1 := allB_len (ns := f.inodes.take i) (fun n hm => (hs.inode n (List.mem_of_mem_take hm)).blocks)
  rw [List.length_take] at h1
  omega
 (try simp -implicitDefEqProofs (disch := first | exact dd | fail) [Tryz.f206]); (repeat' ((with_reducible first | (refine Br.out ?_ ?_ <;> intro h <;> (try (have h0 := h; simp only [bH] at h))) | fail) <;> (try simp -implicitDefEqProofs (disch := first | exact dd | fail) [Tryz.f206])))
 refine AL_fors (σ := Unit) 13 f.inodes.length (fun i _ => [(5, .int .i64 (ownN u (allB (f.inodes.take i))))]) (fun _ _ => []) (fun i _ => True) () (by simp [allB, ownN]) trivial (fun i _ n hlt _ ih => ?_) (fun _ n _ => ?_)
 ·have hsn := hs.inode _ (List.getElem_mem hlt)
  have hbl := hsn.blocks
  have hal := allB_take hlt
  have hb1 := hbd i
  have hi := ih () trivial
  rw [hal, ownN_append] at hi
  have ho := ownN_le (u := u) (B := allB (f.inodes.take i))
  generalize hx : f.inodes[i] = x at *
  generalize ownN u (allB (f.inodes.take i)) = p at *
  (try simp -implicitDefEqProofs (disch := first | exact dd | fail) [Tryz.f206, hlt, hx, cInode]); (repeat' ((with_reducible first | (refine Br.out ?_ ?_ <;> intro h <;> (try (have h0 := h; simp only [bH] at h))) | fail) <;> (try simp -implicitDefEqProofs (disch := first | exact dd | fail) [Tryz.f206, hlt, hx, cInode])))
  refine AL_fors (σ := Unit) 20 x.blocks.length (fun j _ => [(5, .int .i64 ((p + ownN u (real (x.blocks.take j)) : Nat) : Int))]) (fun j _ => []) (fun j _ => True) () (by simp [real, ownN]) trivial (fun j _ n hjt _ jh => ?_) (fun _ n _ => ?_)
  ·have hj := jh () trivial
   have hr := real_take hjt
   have ho2 := ownN_le (u := u) (B := real (x.blocks.take j))
   have hrl := real_len (l := x.blocks.take j)
   rw [List.length_take] at hrl
   by_cases hb : x.blocks[j] = -1
   ·rw [if_pos hb] at hr
    rw [hr] at hj
    generalize ownN u (real (x.blocks.take j)) = q at *
    (try simp -implicitDefEqProofs (disch := first | exact dd | fail) [Tryz.f206, hlt, hjt, hx, hb, cInode]); (repeat' ((with_reducible first | (refine Br.out ?_ ?_ <;> intro h <;> (try (have h0 := h; simp only [bH] at h))) | fail) <;> (try simp -implicitDefEqProofs (disch := first | exact dd | fail) [Tryz.f206, hlt, hjt, hx, hb, cInode])))
    all_goals first | exact hj
   ·rw [if_neg hb] at hr
    rw [hr, ownN_append, ownN_one] at hj
    generalize ownN u (real (x.blocks.take j)) = q at *
    by_cases hw : ownerOf x.blocks[j] = u
    ·rw [if_pos hw] at hj
     (try simp -implicitDefEqProofs (disch := first | exact dd | fail) [Tryz.f206, hlt, hjt, hx, hb, hw, cInode]); (repeat' ((with_reducible first | (refine Br.out ?_ ?_ <;> intro h <;> (try (have h0 := h; simp only [bH] at h))) | refine AC_snd (spec_BlockOwner _) ?_ | fail) <;> (try simp -implicitDefEqProofs (disch := first | exact dd | fail) [Tryz.f206, hlt, hjt, hx, hb, hw, cInode])))
     all_goals first | exact hj
    ·rw [if_neg hw] at hj
     (try simp -implicitDefEqProofs (disch := first | exact dd | fail) [Tryz.f206, hlt, hjt, hx, hb, hw, cInode]); (repeat' ((with_reducible first | (refine Br.out ?_ ?_ <;> intro h <;> (try (have h0 := h; simp only [bH] at h))) | refine AC_snd (spec_BlockOwner _) ?_ | fail) <;> (try simp -implicitDefEqProofs (disch := first | exact dd | fail) [Tryz.f206, hlt, hjt, hx, hb, hw, cInode])))
     all_goals first | exact hj
  ·rw [List.take_length]
   (try simp -implicitDefEqProofs (disch := first | exact dd | fail) [Tryz.f206]); (repeat' ((with_reducible first | (refine Br.out ?_ ?_ <;> intro h <;> (try (have h0 := h; simp only [bH] at h))) | fail) <;> (try simp -implicitDefEqProofs (disch := first | exact dd | fail) [Tryz.f206])))
   all_goals first | exact hi
 ·rw [List.take_length]
  (try simp -implicitDefEqProofs (disch := first | exact dd | fail) [Tryz.f206]); (repeat' ((with_reducible first | (refine Br.out ?_ ?_ <;> intro h <;> (try (have h0 := h; simp only [bH] at h))) | fail) <;> (try simp -implicitDefEqProofs (disch := first | exact dd | fail) [Tryz.f206])))
theorem used_inR {ns : List DInode} (hin : ∀ n ∈ ns, IsInode n) (h : ∀ n ∈ ns, OwnOK n) : InR ns := fun n hn b hb hne =>
 owner_range (h n hn b hb hne) (inode_used (hin n hn) (List.length_pos_of_mem hb)).uid.1
theorem spec_l08NextBlock (n1 n2 n3 : Option Bool) (f : DFS) (u : Int) (hs : SmF f) (hin : ∀ n ∈ f.inodes, IsInode n) (hus : UsedOK f.inodes) (hu : IsUser u) (hq : f.quotas.length = 4) (hn : f.inodes.length = 20) : Snd Tryz.prog 179 [fFS n1 n2 n3 f, .int .i64 u] (.tup [.int .i64 (nextB f u).1, .int .i64 (nextB f u).2]) [.unk, .unk] := Runs.snd (M := M) (c := ⟨2, [2, 4, 5, 6, 7, 9, 20, 38, 45], [], []⟩) tok ks mixed Tryz.func179 (p := []) (by kernel_rfl) (by rfl) (by rfl) <| by
 have hb := fun a b d => spec_l08Blocks a b d f u hs hn
 have hp := ownN_pool hu hus.2 (allB_inR (used_inR hin hus.1))
 simp only [hp] at hb
 have ht := fun a b d => spec_l08Used a b d f hs hin
 rw [usedR_yes hus, tr_yes hus] at ht
 obtain ⟨k, rfl⟩ := Int.eq_ofNat_of_zero_le hu.1
 have hk : k < 4 := by omega
 have hkq : k < f.quotas.length := by omega
 have hq2 := quotaAt_nat hkq
 simp only [Int.toNat_natCast] at hb
 unfold nextB
 simp only [hq2, Int.toNat_natCast]
 by_cases hc : f.quotas[k].blocks ≤ ((poolT (allB f.inodes) (14 * k) 14 : Nat) : Int)
 ·rw [if_pos hc]
  (try simp -implicitDefEqProofs (disch := first | exact dd | fail) [Tryz.f179, hkq, hc, cQuota]); (repeat' ((with_reducible first | (refine Br.out ?_ ?_ <;> intro h <;> (try (have h0 := h; simp only [bH] at h))) | refine AC_snd (hb _ _ _) ?_ | fail) <;> (try simp -implicitDefEqProofs (disch := first | exact dd | fail) [Tryz.f179, hkq, hc, cQuota])))
 rw [if_neg hc]
 have hget := fun j => usedL_get (bs := allB f.inodes) (k := j)
 have hlu : (usedL (allB f.inodes)).length = 56 := usedL_len
 generalize usedL (allB f.inodes) = U at *
 (try simp -implicitDefEqProofs (disch := first | exact dd | fail) [Tryz.f179, hkq, hc, hlu, cQuota]); (repeat' ((with_reducible first | (refine Br.out ?_ ?_ <;> intro h <;> (try (have h0 := h; simp only [bH] at h))) | refine AC_snd (hb _ _ _) ?_ | refine AC_snd (ht _ _ _) ?_ | fail) <;> (try simp -implicitDefEqProofs (disch := first | exact dd | fail) [Tryz.f179, hkq, hc, hlu, cQuota])))
 have e1 : (k : Int) * 14 = ((14 * k : Nat) : Int) := by omega
 rw [e1]
 refine AL_up (fun q => 14 * k + 14 - q) (fun (q : Nat) => [(9, .int .i64 (q : Int))]) (fun _ => []) (fun q => (14 * k ≤ q ∧ q ≤ 14 * k + 14) ∧ nextFree (allB f.inodes) q (14 * k + 14 - q) = nextFree (allB f.inodes) (14 * k) 14) (14 * k) rfl ⟨by omega, by rw [show 14 * k + 14 - 14 * k = 14 by omega]⟩ ?_
 rintro q n ⟨⟨hq0, hq1⟩, he⟩ ih
 rcases Nat.lt_or_ge q (14 * k + 14) with hjt | hjt
 ·have hg := hget q (by omega)
  have hst : nextFree (allB f.inodes) q (14 * k + 14 - q) = if (q : Int) ∈ allB f.inodes then nextFree (allB f.inodes) (q + 1) (14 * k + 14 - (q + 1)) else ((q : Int), 0) := by
   rw [show 14 * k + 14 - q = (14 * k + 14 - (q + 1)) + 1 by omega, nextFree]
  by_cases hm : (q : Int) ∈ allB f.inodes
  ·rw [decide_eq_true hm] at hg
   rw [if_pos hm] at hst
   have hi := ih (q + 1) ⟨by omega, by rw [← hst]; exact he⟩ (by omega)
   have hgv := (List.getElem?_eq_some_iff.1 hg).2
   (try simp -implicitDefEqProofs (disch := first | exact dd | fail) [Tryz.f179, hg, hgv, hlu, cb, hjt]); (repeat' ((with_reducible first | (refine Br.out ?_ ?_ <;> intro h <;> (try (have h0 := h; simp only [bH] at h))) | fail) <;> (try simp -implicitDefEqProofs (disch := first | exact dd | fail) [Tryz.f179, hg, hgv, hlu, cb, hjt])))
   all_goals first | exact hi
  ·rw [decide_eq_false hm] at hg
   rw [if_neg hm] at hst
   rw [← he, hst]
   have hgv := (List.getElem?_eq_some_iff.1 hg).2
   (try simp -implicitDefEqProofs (disch := first | exact dd | fail) [Tryz.f179, hg, hgv, hlu, cb, hjt]); (repeat' ((with_reducible first | (refine Br.out ?_ ?_ <;> intro h <;> (try (have h0 := h; simp only [bH] at h))) | fail) <;> (try simp -implicitDefEqProofs (disch := first | exact dd | fail) [Tryz.f179, hg, hgv, hlu, cb, hjt])))
 ·obtain rfl : q = 14 * k + 14 := by omega
  rw [← he, Nat.sub_self, nextFree]
  (try simp -implicitDefEqProofs (disch := first | exact dd | fail) [Tryz.f179, hlu, cb]); (repeat' ((with_reducible first | (refine Br.out ?_ ?_ <;> intro h <;> (try (have h0 := h; simp only [bH] at h))) | fail) <;> (try simp -implicitDefEqProofs (disch := first | exact dd | fail) [Tryz.f179, hlu, cb])))
end Go.Proofs.YtiafmpcmmohdkaaGreat
