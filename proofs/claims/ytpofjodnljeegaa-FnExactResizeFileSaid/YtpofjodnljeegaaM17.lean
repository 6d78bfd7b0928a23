/- Plain facts: an inode that gets a new block stays valid in its file system. -/
import Derived.Test.YtpofjodnljeegaaM15
namespace Go.Fw
set_option linter.unusedVariables false
theorem allB_set {ns : List DInode} {i : Nat} {n : DInode} (h : i < ns.length) : allB (ns.set i n) = allB (ns.take i) ++ (real n.blocks ++ allB (ns.drop (i + 1))) := by
 rw [List.set_eq_take_append_cons_drop, if_pos h]
 simp [allB]
theorem allB_set_congr {ns : List DInode} {i : Nat} {n m : DInode} (h : i < ns.length) (hr : real n.blocks = real m.blocks) : allB (ns.set i n) = allB (ns.set i m) := by
 rw [allB_set h, allB_set h, hr]
theorem allB_set_self {ns : List DInode} {i : Nat} {n : DInode} (h : i < ns.length) (hr : real n.blocks = real ns[i].blocks) : allB (ns.set i n) = allB ns := by
 rw [allB_set_congr h hr, List.set_getElem_self]
theorem nodup_mid {A B : List Int} {b : Int} (h : (A ++ B).Nodup) (hb : b ∉ A ++ B) : (A ++ b :: B).Nodup :=
 (List.perm_middle.nodup_iff).2 (List.nodup_cons.2 ⟨hb, h⟩)
theorem real_set {l : List Int} {k : Nat} {b : Int} (h : k < l.length) (hk : l[k] = -1) (hb : b ≠ -1) : real l = real (l.take k) ++ real (l.drop (k + 1)) ∧ real (l.set k b) = real (l.take k) ++ b :: real (l.drop (k + 1)) := by
 constructor
 ·have h1 : l.take k ++ l[k] :: l.drop (k + 1) = l := by rw [← List.drop_eq_getElem_cons h, List.take_append_drop]
  have h2 := congrArg real h1
  rw [← h2, real, List.filter_append, List.filter_cons, if_neg (by simp [hk])]
  rfl
 ·rw [List.set_eq_take_append_cons_drop, if_pos h, real, List.filter_append, List.filter_cons, if_pos (by simpa using hb)]
  rfl
structure WV (ns : List DInode) (i : Nat) (n : DInode) : Prop where
 ok : InodeOK n
 own : OwnOK n
 once : (allB (ns.set i n)).Nodup
theorem WV.used {ns : List DInode} {i : Nat} {n : DInode} (h : WV ns i n) (hn : ∀ m ∈ ns, OwnOK m) : UsedOK (ns.set i n) := by
 refine ⟨fun m hm => ?_, h.once⟩
 rcases List.mem_or_eq_of_mem_set hm with h1 | rfl
 ·exact hn m h1
 ·exact h.own
theorem WV.inodes {ns : List DInode} {i : Nat} {n : DInode} (h : WV ns i n) (hn : ∀ m ∈ ns, IsInode m) : ∀ m ∈ ns.set i n, IsInode m := by
 intro m hm
 rcases List.mem_or_eq_of_mem_set hm with h1 | rfl
 ·exact hn m h1
 ·exact .inr h.ok
theorem take_set_mem {l : List Int} {k j : Nat} {b c : Int} (h : c ∈ (l.set k b).take j) : c ∈ l.take j ∨ c = b := by
 rw [List.take_set] at h
 exact List.mem_or_eq_of_mem_set h
theorem WV.step {ns : List DInode} {i k : Nat} {n : DInode} {b : Nat} (h : WV ns i n) (hi : i < ns.length) (hk : k < n.blocks.length) (hb : n.blocks[k] = -1) (hb56 : b < 56) (ho : ownerOf b = n.uid) (hf : (b : Int) ∉ allB (ns.set i n)) : WV ns i (wN n k b) := by
 have hb1 : (b : Int) ≠ -1 := by omega
 have hin : (b : Int) ∉ n.blocks := fun hm => hf (by
  rw [allB_set hi]
  exact List.mem_append_right _ (List.mem_append_left _ (mem_real.2 ⟨hm, hb1⟩)))
 have hr := real_set hk hb hb1
 refine ⟨?_, ?_, ?_⟩
 ·have := h.ok
  refine ⟨this.kind, this.mode, this.uid, this.gid, this.links, this.size, this.tick, by simpa [wN] using this.blocks, ?_, this.acl, this.dflt, this.file⟩
  intro j hj c hc
  simp only [wN, List.length_set] at hj
  simp only [wN] at hc ⊢
  rw [List.getElem?_set] at hc
  by_cases e : k = j
  ·subst e
   rw [if_pos rfl, if_pos hk] at hc
   injection hc with hc
   subst hc
   refine .inr ⟨by omega, fun hm => ?_⟩
   rw [List.take_set_of_le (Nat.le_refl _)] at hm
   exact hin (List.mem_of_mem_take hm)
  ·rw [if_neg e] at hc
   have hcm := List.mem_of_getElem? hc
   rcases this.blk j hj c hc with h1 | ⟨h1, h2⟩
   ·exact .inl h1
   ·refine .inr ⟨h1, fun hm => ?_⟩
    rcases take_set_mem hm with h3 | rfl
    ·exact h2 h3
    ·exact hin hcm
 ·intro c hc hc1
  rcases List.mem_or_eq_of_mem_set hc with h1 | rfl
  ·exact h.own c h1 hc1
  ·exact ho
 ·have h1 := h.once
  rw [allB_set hi] at h1 hf ⊢
  simp only [wN]
  rw [hr.2]
  rw [hr.1] at h1 hf
  have e : ∀ (A B C E : List Int), A ++ (B ++ C ++ E) = (A ++ B) ++ (C ++ E) := by intros; simp
  have e2 : ∀ (A B C E : List Int), A ++ (B ++ (b : Int) :: C ++ E) = (A ++ B) ++ (b : Int) :: (C ++ E) := by intros; simp
  rw [e] at h1 hf
  rw [e2]
  exact nodup_mid h1 hf
theorem WV.start {ns : List DInode} {i : Nat} {n : DInode} {e : Int} (hi : i < ns.length) (hn : ns[i] = n) (hin : InodeOK n) (he : e ≤ 256) (how : ∀ m ∈ ns, OwnOK m) (hon : (allB ns).Nodup) : WV ns i (sized n e) := by
 have h1 := hin.blocks
 have h2 := hin.size
 have h3 := blocksNeeded_le (s := max n.size e) (by omega)
 have h4 : blocksNeeded n.size ≤ blocksNeeded (max n.size e) := by
  unfold blocksNeeded
  split <;> split <;> omega
 have h5 := blocksNeeded_nn (s := max n.size e)
 refine ⟨⟨hin.kind, hin.mode, hin.uid, hin.gid, hin.links, ?_, hin.tick, ?_, ?_, hin.acl, hin.dflt, hin.file⟩, ?_, ?_⟩
 ·simp only [sized]; omega
 ·simp only [sized, growB_len]; omega
 ·intro j hj c hc
  simp only [sized] at hc ⊢
  by_cases hc1 : c = -1
  ·exact .inl hc1
  have hjl : j < n.blocks.length := by
   rcases Nat.lt_or_ge j n.blocks.length with h6 | h6
   ·exact h6
   ·rw [growB, List.getElem?_append_right h6] at hc
    exact absurd (List.mem_replicate.1 (List.mem_of_getElem? hc)).2 hc1
  rw [growB, List.getElem?_append_left hjl] at hc
  have := hin.blk j hjl c hc
  rwa [growB, List.take_append_of_le_length (by omega)]
 ·intro c hc hc1
  exact how n (by rw [← hn]; exact List.getElem_mem hi) c (mem_growB hc hc1) hc1
 ·rwa [allB_set_self hi (by rw [hn]; exact real_growB)]
theorem nextB_allB {f g : DFS} {u : Int} (hq : f.quotas = g.quotas) (h : allB f.inodes = allB g.inodes) : nextB f u = nextB g u := by
 unfold nextB quotaAt
 rw [h, hq]
end Go.Fw
