import Derived.Test.YtpofjodnljeegaaP14a
import Derived.Test.YtpofjodnljeegaaP08c
namespace Go.Proofs.Ytpofjodnljeegaa
open Go.Fw
set_option linter.unusedVariables false
set_option linter.unusedSimpArgs false
set_option maxHeartbeats 4000000
set_option maxRecDepth 8000
theorem ownN_le {u : Int} {B : List Int} : ownN u B ≤ B.length := List.length_filter_le _ _
theorem allB_len {ns : List DInode} (h : ∀ n ∈ ns, n.blocks.length ≤ 1048576) : (allB ns).length ≤ 1048576 * ns.length := by
 induction ns with
 | nil => simp [allB]
 | cons n ns ih =>
  have h1 := ih (fun m hm => h m (List.mem_cons_of_mem _ hm))
  have h2 := h n (List.mem_cons_self ..)
  have h3 := real_len (l := n.blocks)
  rw [allB, List.flatMap_cons, List.length_append, ← allB, List.length_cons]
  omega
theorem spec_l08Blocks (n1 n2 n3 : Option Bool) (f : DFS) (u : Int) (hs : SmF f) (hn : f.inodes.length = 20) : Snd Try.prog 142 [fFS n1 n2 n3 f, .int .i64 u] (.int .i64 (ownN u (allB f.inodes))) [.unk, .unk] := Runs.snd (M := M) (c := ⟨2, [2, 4, 5, 7, 9, 11, 12, 13, 14, 18, 19, 20, 21, 31], [], [(1, [0, 1, 2, 4, 5, 11, 12, 13, 14, 21, 31]), (2, [0, 1, 2, 4, 5, 7, 11, 12, 13, 14, 18, 19, 20, 21, 31]), (3, [0, 1, 2, 4, 5, 7, 11, 12, 13, 14, 18, 19, 20, 21, 31])]⟩) tok ks mixed Try.func142 (p := []) (by kernel_rfl) (by rfl) (by rfl) <| by
 have hbd : ∀ (i : Nat), (allB (f.inodes.take i)).length ≤ 1048576 * 20 := fun i => by
  have h1 := allB_len (ns := f.inodes.take i) (fun n hm => (hs.inode n (List.mem_of_mem_take hm)).blocks)
  rw [List.length_take] at h1
  omega
 (try simp -implicitDefEqProofs (disch := first | exact dd | fail) [Try.f142]); (repeat' ((with_reducible first | (refine Br.out ?_ ?_ <;> intro h <;> (try (have h0 := h; simp only [bH] at h))) | fail) <;> (try simp -implicitDefEqProofs (disch := first | exact dd | fail) [Try.f142])))
 refine AL_fors (σ := Unit) 13 f.inodes.length (fun i _ => [(5, .int .i64 (ownN u (allB (f.inodes.take i))))]) (fun _ _ => []) (fun i _ => True) () (by simp [allB, ownN]) trivial (fun i _ n hlt _ ih => ?_) (fun _ n _ => ?_)
 ·have hsn := hs.inode _ (List.getElem_mem hlt)
  have hbl := hsn.blocks
  have hal := allB_take hlt
  have hb1 := hbd i
  have hi := ih () trivial
  rw [hal, ownN_append] at hi
  have ho := ownN_le (u := u) (B := allB (f.inodes.take i))
  generalize hx : f.inodes[i] = x at *
  generalize ownN u (allB (f.inodes.take i)) = p at *
  (try simp -implicitDefEqProofs (disch := first | exact dd | fail) [Try.f142, hlt, hx, cInode]); (repeat' ((with_reducible first | (refine Br.out ?_ ?_ <;> intro h <;> (try (have h0 := h; simp only [bH] at h))) | fail) <;> (try simp -implicitDefEqProofs (disch := first | exact dd | fail) [Try.f142, hlt, hx, cInode])))
  refine AL_fors (σ := Unit) 20 x.blocks.length (fun j _ => [(5, .int .i64 ((p + ownN u (real (x.blocks.take j)) : Nat) : Int))]) (fun j _ => []) (fun j _ => True) () (by simp [real, ownN]) trivial (fun j _ n hjt _ jh => ?_) (fun _ n _ => ?_)
  ·have hj := jh () trivial
   have hr := real_take hjt
   have ho2 := ownN_le (u := u) (B := real (x.blocks.take j))
   have hrl := real_len (l := x.blocks.take j)
   rw [List.length_take] at hrl
   by_cases hb : x.blocks[j] = -1
   ·rw [if_pos hb] at hr
    rw [hr] at hj
    generalize ownN u (real (x.blocks.take j)) = q at *
    (try simp -implicitDefEqProofs (disch := first | exact dd | fail) [Try.f142, hlt, hjt, hx, hb, cInode]); (repeat' ((with_reducible first | (refine Br.out ?_ ?_ <;> intro h <;> (try (have h0 := h; simp only [bH] at h))) | fail) <;> (try simp -implicitDefEqProofs (disch := first | exact dd | fail) [Try.f142, hlt, hjt, hx, hb, cInode])))
    all_goals first | exact hj
   ·rw [if_neg hb] at hr
    rw [hr, ownN_append, ownN_one] at hj
    generalize ownN u (real (x.blocks.take j)) = q at *
    by_cases hw : ownerOf x.blocks[j] = u
    ·rw [if_pos hw] at hj
     (try simp -implicitDefEqProofs (disch := first | exact dd | fail) [Try.f142, hlt, hjt, hx, hb, hw, cInode]); (repeat' ((with_reducible first | (refine Br.out ?_ ?_ <;> intro h <;> (try (have h0 := h; simp only [bH] at h))) | refine AC_snd (spec_BlockOwner _) ?_ | fail) <;> (try simp -implicitDefEqProofs (disch := first | exact dd | fail) [Try.f142, hlt, hjt, hx, hb, hw, cInode])))
     all_goals first | exact hj
    ·rw [if_neg hw] at hj
     (try simp -implicitDefEqProofs (disch := first | exact dd | fail) [Try.f142, hlt, hjt, hx, hb, hw, cInode]); (repeat' ((with_reducible first | (refine Br.out ?_ ?_ <;> intro h <;> (try (have h0 := h; simp only [bH] at h))) | refine AC_snd (spec_BlockOwner _) ?_ | fail) <;> (try simp -implicitDefEqProofs (disch := first | exact dd | fail) [Try.f142, hlt, hjt, hx, hb, hw, cInode])))
     all_goals first | exact hj
  ·rw [List.take_length]
   (try simp -implicitDefEqProofs (disch := first | exact dd | fail) [Try.f142]); (repeat' ((with_reducible first | (refine Br.out ?_ ?_ <;> intro h <;> (try (have h0 := h; simp only [bH] at h))) | fail) <;> (try simp -implicitDefEqProofs (disch := first | exact dd | fail) [Try.f142])))
   all_goals first | exact hi
 ·rw [List.take_length]
  (try simp -implicitDefEqProofs (disch := first | exact dd | fail) [Try.f142]); (repeat' ((with_reducible first | (refine Br.out ?_ ?_ <;> intro h <;> (try (have h0 := h; simp only [bH] at h))) | fail) <;> (try simp -implicitDefEqProofs (disch := first | exact dd | fail) [Try.f142])))
theorem used_inR {ns : List DInode} (hin : ∀ n ∈ ns, IsInode n) (h : ∀ n ∈ ns, OwnOK n) : InR ns := fun n hn b hb hne =>
 owner_range (h n hn b hb hne) (inode_used (hin n hn) (List.length_pos_of_mem hb)).uid.1
theorem spec_l08NextBlock (n1 n2 n3 : Option Bool) (f : DFS) (u : Int) (hs : SmF f) (hin : ∀ n ∈ f.inodes, IsInode n) (hus : UsedOK f.inodes) (hu : IsUser u) (hq : f.quotas.length = 4) (hn : f.inodes.length = 20) : Snd Try.prog 112 [fFS n1 n2 n3 f, .int .i64 u] (.tup [.int .i64 (nextB f u).1, .int .i64 (nextB f u).2]) [.unk, .unk] := Runs.snd (M := M) (c := ⟨2, [2, 4, 5, 6, 7, 9, 20, 38, 45], [], []⟩) tok ks mixed Try.func112 (p := []) (by kernel_rfl) (by rfl) (by rfl) <| by
 have hb := fun a b d => spec_l08Blocks a b d f u hs hn
 have hp := ownN_pool hu hus.2 (allB_inR (used_inR hin hus.1))
 simp only [hp] at hb
 have ht := fun a b d => spec_l08Used a b d f hs hin
 rw [usedR_yes hus, tr_yes hus] at ht
 obtain ⟨k, rfl⟩ := Int.eq_ofNat_of_zero_le hu.1
 have hk : k < 4 := by omega
 have hkq : k < f.quotas.length := by omega
 have hq2 := quotaAt_nat hkq
 simp only [Int.toNat_natCast] at hb
 unfold nextB
 simp only [hq2, Int.toNat_natCast]
 by_cases hc : f.quotas[k].blocks ≤ ((poolT (allB f.inodes) (14 * k) 14 : Nat) : Int)
 ·rw [if_pos hc]
  (try simp -implicitDefEqProofs (disch := first | exact dd | fail) [Try.f112, hkq, hc, cQuota]); (repeat' ((with_reducible first | (refine Br.out ?_ ?_ <;> intro h <;> (try (have h0 := h; simp only [bH] at h))) | refine AC_snd (hb _ _ _) ?_ | fail) <;> (try simp -implicitDefEqProofs (disch := first | exact dd | fail) [Try.f112, hkq, hc, cQuota])))
 rw [if_neg hc]
 have hget := fun j => usedL_get (bs := allB f.inodes) (k := j)
 have hlu : (usedL (allB f.inodes)).length = 56 := usedL_len
 generalize usedL (allB f.inodes) = U at *
 (try simp -implicitDefEqProofs (disch := first | exact dd | fail) [Try.f112, hkq, hc, hlu, cQuota]); (repeat' ((with_reducible first | (refine Br.out ?_ ?_ <;> intro h <;> (try (have h0 := h; simp only [bH] at h))) | refine AC_snd (hb _ _ _) ?_ | refine AC_snd (ht _ _ _) ?_ | fail) <;> (try simp -implicitDefEqProofs (disch := first | exact dd | fail) [Try.f112, hkq, hc, hlu, cQuota])))
 have e1 : (k : Int) * 14 = ((14 * k : Nat) : Int) := by omega
 rw [e1]
 refine AL_up (fun q => 14 * k + 14 - q) (fun (q : Nat) => [(9, .int .i64 (q : Int))]) (fun _ => []) (fun q => (14 * k ≤ q ∧ q ≤ 14 * k + 14) ∧ nextFree (allB f.inodes) q (14 * k + 14 - q) = nextFree (allB f.inodes) (14 * k) 14) (14 * k) rfl ⟨by omega, by rw [show 14 * k + 14 - 14 * k = 14 by omega]⟩ ?_
 rintro q n ⟨⟨hq0, hq1⟩, he⟩ ih
 rcases Nat.lt_or_ge q (14 * k + 14) with hjt | hjt
 ·have hg := hget q (by omega)
  have hst : nextFree (allB f.inodes) q (14 * k + 14 - q) = if (q : Int) ∈ allB f.inodes then nextFree (allB f.inodes) (q + 1) (14 * k + 14 - (q + 1)) else ((q : Int), 0) := by
   rw [show 14 * k + 14 - q = (14 * k + 14 - (q + 1)) + 1 by omega, nextFree]
  by_cases hm : (q : Int) ∈ allB f.inodes
  ·rw [decide_eq_true hm] at hg
   rw [if_pos hm] at hst
   have hi := ih (q + 1) ⟨by omega, by rw [← hst]; exact he⟩ (by omega)
   have hgv := (List.getElem?_eq_some_iff.1 hg).2
   (try simp -implicitDefEqProofs (disch := first | exact dd | fail) [Try.f112, hg, hgv, hlu, cb, hjt]); (repeat' ((with_reducible first | (refine Br.out ?_ ?_ <;> intro h <;> (try (have h0 := h; simp only [bH] at h))) | fail) <;> (try simp -implicitDefEqProofs (disch := first | exact dd | fail) [Try.f112, hg, hgv, hlu, cb, hjt])))
   all_goals first | exact hi
  ·rw [decide_eq_false hm] at hg
   rw [if_neg hm] at hst
   rw [← he, hst]
   have hgv := (List.getElem?_eq_some_iff.1 hg).2
   (try simp -implicitDefEqProofs (disch := first | exact dd | fail) [Try.f112, hg, hgv, hlu, cb, hjt]); (repeat' ((with_reducible first | (refine Br.out ?_ ?_ <;> intro h <;> (try (have h0 := h; simp only [bH] at h))) | fail) <;> (try simp -implicitDefEqProofs (disch := first | exact dd | fail) [Try.f112, hg, hgv, hlu, cb, hjt])))
 ·obtain rfl : q = 14 * k + 14 := by omega
  rw [← he, Nat.sub_self, nextFree]
  (try simp -implicitDefEqProofs (disch := first | exact dd | fail) [Try.f112, hlu, cb]); (repeat' ((with_reducible first | (refine Br.out ?_ ?_ <;> intro h <;> (try (have h0 := h; simp only [bH] at h))) | fail) <;> (try simp -implicitDefEqProofs (disch := first | exact dd | fail) [Try.f112, hlu, cb])))
end Go.Proofs.Ytpofjodnljeegaa
