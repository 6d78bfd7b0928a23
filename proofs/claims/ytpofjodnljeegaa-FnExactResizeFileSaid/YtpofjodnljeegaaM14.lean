/- Plain models: blocks given out. -/
import Derived.Test.YtpofjodnljeegaaM13
namespace Go.Fw
set_option linter.unusedVariables false
def quotaAt (f : DFS) (u : Int) : DQuota := f.quotas.getD u.toNat ⟨0, 0⟩
theorem quotaAt_nat {f : DFS} {k : Nat} (h : k < f.quotas.length) : quotaAt f k = f.quotas[k] := by simp [quotaAt, h]
def InR (ns : List DInode) : Prop := ∀ n ∈ ns, ∀ b ∈ n.blocks, b ≠ -1 → 0 ≤ b ∧ b < 56
def poolT (B : List Int) (lo n : Nat) : Nat := ((List.range n).filter (fun j => decide (((lo + j : Nat) : Int) ∈ B))).length
theorem poolT_succ {B : List Int} {lo n : Nat} : poolT B lo (n + 1) = poolT B lo n + if ((lo + n : Nat) : Int) ∈ B then 1 else 0 := by
 simp only [poolT, List.range_succ, List.filter_append, List.length_append]
 by_cases h : ((lo + n : Nat) : Int) ∈ B
 ·rw [if_pos h, List.filter_cons, if_pos (decide_eq_true h)]
  rfl
 ·rw [if_neg h, List.filter_cons, if_neg (by rw [decide_eq_true_eq]; exact h)]
  rfl
theorem poolT_le {B : List Int} {lo n : Nat} : poolT B lo n ≤ n := by
 have := List.length_filter_le (fun j => decide (((lo + j : Nat) : Int) ∈ B)) (List.range n)
 simpa [poolT] using this
def nextFree (B : List Int) : Nat → Nat → Int × Int
 | _, 0 => (0, 8)
 | lo, n + 1 => if (lo : Int) ∈ B then nextFree B (lo + 1) n else (lo, 0)
def nextB (f : DFS) (u : Int) : Int × Int := if (quotaAt f u).blocks ≤ poolT (allB f.inodes) (14 * u.toNat) 14 then (0, 7) else nextFree (allB f.inodes) (14 * u.toNat) 14
theorem nextFree_ok {B : List Int} : ∀ {n lo : Nat}, (nextFree B lo n).2 = 0 → ∃ k : Nat, (nextFree B lo n).1 = k ∧ lo ≤ k ∧ k < lo + n ∧ (k : Int) ∉ B
 | 0, lo, h => by simp [nextFree] at h
 | n + 1, lo, h => by
  rw [nextFree] at h ⊢
  split
  ·rename_i hm
   rw [if_pos hm] at h
   obtain ⟨k, h1, h2, h3, h4⟩ := nextFree_ok h
   exact ⟨k, h1, by omega, by omega, h4⟩
  ·rename_i hm
   exact ⟨lo, rfl, Nat.le_refl _, by omega, hm⟩
theorem nextB_ok {f : DFS} {u : Int} (hu : IsUser u) (h : (nextB f u).2 = 0) : ∃ k : Nat, (nextB f u).1 = k ∧ k < 56 ∧ ownerOf k = u ∧ (k : Int) ∉ allB f.inodes := by
 unfold nextB at h ⊢
 split
 ·rename_i hq
  rw [if_pos hq] at h
  cases h
 ·rename_i hq
  rw [if_neg hq] at h
  obtain ⟨k, h1, h2, h3, h4⟩ := nextFree_ok h
  refine ⟨k, h1, by omega, ?_, h4⟩
  unfold ownerOf
  rw [if_pos (by omega)]
  omega
theorem nextFree_code {B : List Int} : ∀ {n lo : Nat}, (nextFree B lo n).2 = 0 ∨ (nextFree B lo n).2 = 8
 | 0, lo => .inr rfl
 | n + 1, lo => by
  rw [nextFree]
  split
  ·exact nextFree_code
  ·exact .inl rfl
theorem poolT_congr {A B : List Int} {lo : Nat} : ∀ {n : Nat}, (∀ k : Nat, lo ≤ k → k < lo + n → ((k : Int) ∈ A ↔ (k : Int) ∈ B)) → poolT A lo n = poolT B lo n
 | 0, _ => rfl
 | n + 1, h => by
  rw [poolT_succ, poolT_succ, poolT_congr (fun k h1 h2 => h k h1 (by omega))]
  have := h (lo + n) (by omega) (by omega)
  by_cases hm : ((lo + n : Nat) : Int) ∈ A
  ·rw [if_pos hm, if_pos (this.1 hm)]
  ·rw [if_neg hm, if_neg (fun h => hm (this.2 h))]
theorem nextFree_congr {A B : List Int} : ∀ {n lo : Nat}, (∀ k : Nat, lo ≤ k → k < lo + n → ((k : Int) ∈ A ↔ (k : Int) ∈ B)) → nextFree A lo n = nextFree B lo n
 | 0, lo, _ => rfl
 | n + 1, lo, h => by
  have h0 := h lo (Nat.le_refl _) (by omega)
  rw [nextFree, nextFree, nextFree_congr (n := n) (lo := lo + 1) (fun k h1 h2 => h k (by omega) (by omega))]
  by_cases hm : (lo : Int) ∈ A
  ·rw [if_pos hm, if_pos (h0.1 hm)]
  ·rw [if_neg hm, if_neg (fun h => hm (h0.2 h))]
theorem nextB_congr {f g : DFS} {u : Int} (hu : IsUser u) (hq : f.quotas = g.quotas) (h : ∀ k : Nat, ownerOf k = u → ((k : Int) ∈ allB f.inodes ↔ (k : Int) ∈ allB g.inodes)) : nextB f u = nextB g u := by
 have hk : ∀ k : Nat, 14 * u.toNat ≤ k → k < 14 * u.toNat + 14 → ((k : Int) ∈ allB f.inodes ↔ (k : Int) ∈ allB g.inodes) := fun k h1 h2 => h k (by unfold ownerOf; rw [if_pos (by omega)]; omega)
 unfold nextB quotaAt
 rw [poolT_congr hk, nextFree_congr hk, hq]
def ownN (u : Int) (B : List Int) : Nat := (B.filter (fun b => decide (ownerOf b = u))).length
theorem ownN_append {u : Int} {A B : List Int} : ownN u (A ++ B) = ownN u A + ownN u B := by simp [ownN]
theorem ownN_one {u b : Int} : ownN u [b] = if ownerOf b = u then 1 else 0 := by
 by_cases h : ownerOf b = u <;> simp [ownN, h]
theorem poolT_cons {B : List Int} {b : Int} {lo : Nat} (hb : b ∉ B) : ∀ {n : Nat}, poolT (b :: B) lo n = poolT B lo n + if (lo : Int) ≤ b ∧ b < lo + n then 1 else 0
 | 0 => by
  rw [if_neg (by omega)]
  rfl
 | n + 1 => by
  rw [poolT_succ, poolT_succ, poolT_cons hb]
  by_cases h1 : ((lo + n : Nat) : Int) = b
  ·subst h1
   rw [if_neg (by omega), if_pos (by simp), if_neg hb, if_pos (by omega)]
  ·by_cases h2 : ((lo + n : Nat) : Int) ∈ B
   ·rw [if_pos (List.mem_cons_of_mem _ h2), if_pos h2]
    by_cases h3 : (lo : Int) ≤ b ∧ b < lo + n
    ·rw [if_pos h3, if_pos (by omega)]
    ·rw [if_neg h3, if_neg (by omega)]
   ·rw [if_neg (fun hm => (List.mem_cons.1 hm).elim h1 h2), if_neg h2]
    by_cases h3 : (lo : Int) ≤ b ∧ b < lo + n
    ·rw [if_pos h3, if_pos (by omega)]
    ·rw [if_neg h3, if_neg (by omega)]
theorem ownN_pool {u : Int} (hu : IsUser u) : ∀ {B : List Int}, B.Nodup → (∀ b ∈ B, 0 ≤ b ∧ b < 56) → ownN u B = poolT B (14 * u.toNat) 14
 | [], _, _ => by
  have : ∀ n, poolT [] (14 * u.toNat) n = 0 := fun n => by simp [poolT]
  rw [this]
  rfl
 | b :: B, hn, hr => by
  have h1 := List.nodup_cons.1 hn
  have h2 := ownN_pool hu h1.2 (fun c hc => hr c (List.mem_cons_of_mem _ hc))
  have h3 := hr b (List.mem_cons_self ..)
  rw [poolT_cons h1.1, ← h2, show b :: B = [b] ++ B from rfl, ownN_append, ownN_one]
  unfold ownerOf
  rw [if_pos h3]
  by_cases h4 : b / 14 = u
  ·rw [if_pos h4, if_pos (by omega)]
   omega
  ·rw [if_neg h4, if_neg (by omega)]
   omega
theorem allB_inR {ns : List DInode} (h : InR ns) : ∀ b ∈ allB ns, 0 ≤ b ∧ b < 56 := by
 intro b hb
 obtain ⟨n, hn, hm⟩ := List.mem_flatMap.1 hb
 have := mem_real.1 hm
 exact h n hn b this.1 this.2
end Go.Fw
