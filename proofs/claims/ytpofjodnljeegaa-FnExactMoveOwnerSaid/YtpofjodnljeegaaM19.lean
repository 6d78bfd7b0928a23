/- Plain models: objects that change their owner. -/
import Derived.Test.YtpofjodnljeegaaM18
namespace Go.Fw
set_option linter.unusedVariables false
def mvD (D : List Str) (c b : Int) : List Str := (D.set c.toNat (D.getD b.toNat [])).set b.toNat zero32
def mvLoop (f : DFS) (i : Nat) (u : Int) : Nat → Nat → DInode → List Str → DInode × List Str × Int
 | 0, _, n, D => (n, D, 0)
 | m + 1, k, n, D => if n.blocks.getD k 0 = -1 then mvLoop f i u m (k + 1) n D
  else if (nextB (setI f i n) u).2 = 0 then mvLoop f i u m (k + 1) (wN n k (nextB (setI f i n) u).1) (mvD D (nextB (setI f i n) u).1 (n.blocks.getD k 0))
  else (n, D, (nextB (setI f i n) u).2)
def moveL (f : DFS) (i : Nat) (u : Int) : DInode × List Str × Int := mvLoop f i u (inodeAt f i).blocks.length 0 (inodeAt f i) f.data
def moveP (f : DFS) (i u : Int) : DFS × Int :=
 if ¬ IsUser u then (f, 1) else if u = (inodeAt f i).uid then (f, 0)
 else (⟨f.tick, f.quotas, f.inodes.set i.toNat { (moveL f i.toNat u).1 with uid := if (moveL f i.toNat u).2.2 = 0 then u else (moveL f i.toNat u).1.uid }, (moveL f i.toNat u).2.1⟩, (moveL f i.toNat u).2.2)
structure MI (f : DFS) (i : Nat) (x : DInode) (u : Int) (k : Nat) (n : DInode) (D : List Str) : Prop where
 w : WI f i x.blocks.length n D
 same : ∀ j, k ≤ j → n.blocks[j]? = x.blocks[j]?
 rest : n = { x with blocks := n.blocks }
 own : ∀ b ∈ n.blocks.take k, b ≠ -1 → ownerOf b = u
 data : ∀ j, k ≤ j → ∀ b, x.blocks[j]? = some b → b ≠ -1 → D[b.toNat]? = f.data[b.toNat]?
theorem MI.skip {f : DFS} {i k : Nat} {x n : DInode} {u : Int} {D : List Str} (h : MI f i x u k n D) (hk : k < x.blocks.length) (hb : n.blocks.getD k 0 = -1) : MI f i x u (k + 1) n D := by
 have hl := h.w.len
 refine ⟨h.w, fun j hj => h.same j (by omega), h.rest, fun b hm hb1 => ?_, fun j hj => h.data j (by omega)⟩
 have hkl : k < n.blocks.length := by omega
 have hg : n.blocks.getD k 0 = n.blocks[k] := by simp [hkl]
 rw [List.take_succ_eq_append_getElem hkl, List.mem_append, List.mem_singleton] at hm
 rcases hm with h1 | h1
 ·exact h.own b h1 hb1
 ·rw [h1, ← hg, hb] at hb1
  exact absurd rfl hb1
theorem blk_ne {x : DInode} (hx : InodeOK x) {j k : Nat} (h : j < k) {b : Int} (hj : x.blocks[j]? = some b) (hk : x.blocks[k]? = some b) (hb : b ≠ -1) : False := by
 have hkl := (List.getElem?_eq_some_iff.1 hk).1
 rcases hx.blk k hkl b hk with h1 | ⟨-, h1⟩
 ·exact hb h1
 ·exact h1 (List.mem_of_getElem? (i := j) (by rw [List.getElem?_take, if_pos h]; exact hj))
theorem MI.step {f : DFS} {i k : Nat} {x n : DInode} {u b : Int} {c : Nat} {D : List Str} (h : MI f i x u k n D) (hx : InodeOK x) (hi : i < f.inodes.length) (hk : x.blocks[k]? = some b) (hb : b ≠ -1) (hc : c < 56) (ho : ownerOf c = u) (hf : (c : Int) ∉ allB (f.inodes.set i n)) : MI f i x u (k + 1) (wN n k c) (mvD D c b) := by
 have hl := h.w.len
 have hkx := (List.getElem?_eq_some_iff.1 hk).1
 have hkl : k < n.blocks.length := by omega
 have hnk : n.blocks[k]? = some b := by rw [h.same k (Nat.le_refl _)]; exact hk
 have hbm : b ∈ n.blocks := List.mem_of_getElem? hnk
 have hbr := h.w.blk b hbm hb
 refine ⟨⟨h.w.sm, h.w.nq, h.w.ni, h.w.hi, h.w.rng, fun d hd hd1 => ?_, by simpa [wN] using hl, h.w.le8, h.w.acl, h.w.uid, by simpa [mvD] using h.w.nd, fun s hs => ?_⟩, fun j hj => ?_, ?_, fun d hd hd1 => ?_, fun j hj d hd hd1 => ?_⟩
 ·rcases List.mem_or_eq_of_mem_set hd with h1 | rfl
  ·exact h.w.blk d h1 hd1
  ·exact ⟨by omega, by omega⟩
 ·rcases List.mem_or_eq_of_mem_set hs with h1 | rfl
  ·rcases List.mem_or_eq_of_mem_set h1 with h2 | rfl
   ·exact h.w.secs s h2
   ·have hbD : b.toNat < D.length := by rw [h.w.nd]; omega
    rw [List.getD_eq_getElem?_getD, List.getElem?_eq_getElem hbD]
    exact h.w.secs _ (List.getElem_mem hbD)
  ·rfl
 ·simp only [wN]
  rw [List.getElem?_set_ne (by omega)]
  exact h.same j (by omega)
 ·have := h.rest
  simp only [wN]
  conv => lhs; rw [this]
 ·simp only [wN] at hd
  have hkl2 : k < (n.blocks.set k c).length := by simpa using hkl
  rw [List.take_succ_eq_append_getElem hkl2, List.mem_append, List.mem_singleton] at hd
  rcases hd with h1 | rfl
  ·rw [List.take_set_of_le (Nat.le_refl _)] at h1
   exact h.own d h1 hd1
  ·simpa using ho
 ·have hjl := (List.getElem?_eq_some_iff.1 hd).1
  have hdm : d ∈ n.blocks := List.mem_of_getElem? (i := j) (by rw [h.same j (by omega)]; exact hd)
  have hdr := h.w.blk d hdm hd1
  have h1 : d ≠ (c : Int) := by
   rintro rfl
   exact hf (by rw [allB_set hi]; exact List.mem_append_right _ (List.mem_append_left _ (mem_real.2 ⟨hdm, hd1⟩)))
  have h2 : d ≠ b := by
   rintro rfl
   exact blk_ne hx (show k < j by omega) hk hd hb
  rw [mvD, List.getElem?_set_ne (by omega), List.getElem?_set_ne (by omega)]
  exact h.data j (by omega) d hd hd1
theorem MI.start {f : DFS} {i : Nat} {x : DInode} {u : Int} (hs : SmF f) (nq : f.quotas.length = 4) (ni : f.inodes.length = 20) (hi : i < 20) (hr : InR f.inodes) (hn : f.inodes[i]? = some x) (hin : InodeOK x) (nd : f.data.length = 56) (hd : ∀ s ∈ f.data, s.length = 32) : MI f i x u 0 x f.data := by
 have h1 := hin.blocks
 have h2 := blocksNeeded_le hin.size.2
 exact ⟨⟨hs, nq, ni, hi, hr, hr x (List.mem_of_getElem? hn), rfl, by omega, ⟨hin.acl.1, hin.dflt.1⟩, hin.uid, nd, hd⟩, fun _ _ => rfl, rfl, by simp, fun _ _ _ _ _ => rfl⟩
theorem zeroR_set {c : Nat} {v : Str} : ∀ {bs : List Int} {D : List Str}, (∀ b ∈ bs, b.toNat ≠ c) → zeroR (D.set c v) bs = (zeroR D bs).set c v
 | [], D, _ => rfl
 | b :: bs, D, h => by
  show zeroR ((D.set c v).set b.toNat zero32) bs = (zeroR (D.set b.toNat zero32) bs).set c v
  rw [List.set_comm _ _ (fun e => h b (List.mem_cons_self ..) e.symm), zeroR_set (fun d hd => h d (List.mem_cons_of_mem _ hd))]
theorem zeroR_get {c : Nat} : ∀ {bs : List Int} {D : List Str}, (∀ b ∈ bs, b.toNat ≠ c) → (zeroR D bs)[c]? = D[c]?
 | [], D, _ => rfl
 | b :: bs, D, h => by
  show (zeroR (D.set b.toNat zero32) bs)[c]? = D[c]?
  rw [zeroR_get (fun d hd => h d (List.mem_cons_of_mem _ hd)), List.getElem?_set_ne (h b (List.mem_cons_self ..))]
def mvN (n : DInode) (u : Int) (k : Nat) : DInode := { n with uid := u, blocks := n.blocks.take k ++ List.replicate (n.blocks.length - k) (-1) }
theorem mvN_len {n : DInode} {u : Int} {k : Nat} (h : k ≤ n.blocks.length) : (mvN n u k).blocks.length = n.blocks.length := by simp [mvN]; omega
theorem mvN_at {n : DInode} {u : Int} {k : Nat} (h : k < n.blocks.length) : (mvN n u k).blocks[k]'(by rw [mvN_len (by omega)]; exact h) = -1 := by
 simp only [mvN]
 rw [List.getElem_append_right (by simp; omega)]
 simp
theorem mvN_skip {n : DInode} {u : Int} {k : Nat} (h : k < n.blocks.length) (hb : n.blocks[k] = -1) : mvN n u (k + 1) = mvN n u k := by
 unfold mvN
 rw [List.take_succ_eq_append_getElem h, hb, List.append_assoc]
 congr 2
 rw [show n.blocks.length - k = (n.blocks.length - (k + 1)) + 1 by omega, List.replicate_succ]
 rfl
theorem mvN_step {n : DInode} {u c : Int} {k : Nat} (h : k < n.blocks.length) : mvN (wN n k c) u (k + 1) = wN (mvN n u k) k c := by
 have hl : (n.blocks.take k).length = k := by rw [List.length_take]; omega
 have h2 : k < (n.blocks.set k c).length := by simpa using h
 unfold mvN wN
 simp only [List.length_set]
 congr 1
 rw [List.take_succ_eq_append_getElem h2, List.take_set_of_le (Nat.le_refl _), List.getElem_set_self, List.set_append_right _ _ (by omega), hl, Nat.sub_self, show n.blocks.length - k = (n.blocks.length - (k + 1)) + 1 by omega, List.replicate_succ, List.set_cons_zero]
 simp
theorem mvN_end {n : DInode} {u : Int} : mvN n u n.blocks.length = { n with uid := u } := by
 unfold mvN
 simp
theorem real_rep {m : Nat} : real (List.replicate m (-1)) = [] := by simp [real]
theorem mvN_real {n : DInode} {u : Int} {k : Nat} : real (mvN n u k).blocks = real (n.blocks.take k) := by
 simp only [mvN]
 rw [real, List.filter_append, ← real, ← real, real_rep, List.append_nil]
theorem real_take_drop {l : List Int} {k : Nat} : real l = real (l.take k) ++ real (l.drop k) := by
 rw [real, real, real, ← List.filter_append, List.take_append_drop]
theorem real_drop {l : List Int} {k : Nat} (h : k < l.length) : real (l.drop k) = if l[k] = -1 then real (l.drop (k + 1)) else l[k] :: real (l.drop (k + 1)) := by
 rw [List.drop_eq_getElem_cons h, real, List.filter_cons]
 by_cases hb : l[k] = -1
 ·simp [hb, real]
 ·rw [if_pos (by simpa using hb), if_neg hb]
  rfl
theorem same_drop {l m : List Int} {k : Nat} (h : ∀ j, k ≤ j → l[j]? = m[j]?) : l.drop k = m.drop k := by
 apply List.ext_getElem?
 intro j
 rw [List.getElem?_drop, List.getElem?_drop]
 exact h _ (by omega)
theorem MI.next {f : DFS} {i k : Nat} {x n : DInode} {u : Int} {D E : List Str} (h : MI f i x u k n D) (hi : i < f.inodes.length) (hu : IsUser u) (hx : OwnOK x) (hne : u ≠ x.uid) : nextB ⟨f.tick, f.quotas, f.inodes.set i (mvN n u k), E⟩ u = nextB ⟨f.tick, f.quotas, f.inodes.set i n, D⟩ u := by
 refine nextB_congr hu rfl fun c hc => ?_
 simp only
 rw [allB_set hi, allB_set hi, mvN_real, real_take_drop (l := n.blocks) (k := k), same_drop h.same]
 have hno : (c : Int) ∉ real (x.blocks.drop k) := fun hm => by
  have hm2 := mem_real.1 hm
  exact hne (by rw [← hc]; exact hx c (List.mem_of_mem_drop hm2.1) hm2.2)
 simp only [List.mem_append]
 constructor
 ·rintro (h1 | h1 | h1)
  ·exact .inl h1
  ·exact .inr (.inl (.inl h1))
  ·exact .inr (.inr h1)
 ·rintro (h1 | (h1 | h1) | h1)
  ·exact .inl h1
  ·exact .inr (.inl h1)
  ·exact absurd h1 hno
  ·exact .inr (.inr h1)
theorem mvD_zero {D : List Str} {x : DInode} {k c : Nat} {b : Int} (hx : InodeOK x) (hk : x.blocks[k]? = some b) (hb : b ≠ -1) (hb0 : 0 ≤ b) (hcb : (c : Int) ≠ b) (hc : (c : Int) ∉ real (x.blocks.drop (k + 1))) (hr : ∀ d ∈ x.blocks, d ≠ -1 → 0 ≤ d) : (zeroR D (real (x.blocks.drop k))).set c (D.getD b.toNat []) = zeroR (mvD D c b) (real (x.blocks.drop (k + 1))) := by
 have hkl := (List.getElem?_eq_some_iff.1 hk).1
 have hkb := (List.getElem?_eq_some_iff.1 hk).2
 have hcs : ∀ d ∈ real (x.blocks.drop (k + 1)), d.toNat ≠ c := by
  intro d hd e
  have hm := mem_real.1 hd
  have := hr d (List.mem_of_mem_drop hm.1) hm.2
  exact hc (by rw [show (c : Int) = d by omega]; exact hd)
 rw [real_drop hkl, hkb, if_neg hb]
 show (zeroR (D.set b.toNat zero32) _).set c _ = _
 rw [mvD, Int.toNat_natCast, List.set_comm _ _ (show c ≠ b.toNat by omega), zeroR_set hcs]
theorem mvN_start {ns : List DInode} {i : Nat} {x : DInode} {u : Int} (hi : i < ns.length) (hx : InodeOK x) (hu : IsUser u) (hon : (allB ns).Nodup) : WV ns i (mvN x u 0) := by
 have hbs : (mvN x u 0).blocks = List.replicate x.blocks.length (-1) := by simp [mvN]
 have hall : ∀ b ∈ (mvN x u 0).blocks, b = -1 := fun b hb => by
  rw [hbs] at hb
  exact (List.mem_replicate.1 hb).2
 refine ⟨⟨hx.kind, hx.mode, hu, hx.gid, hx.links, hx.size, hx.tick, by rw [hbs, List.length_replicate]; exact hx.blocks, fun j hj b hb => .inl (hall b (List.mem_of_getElem? hb)), hx.acl, hx.dflt, hx.file⟩, fun b hb hb1 => absurd (hall b hb) hb1, ?_⟩
 rw [allB_set hi, mvN_real, List.take_zero]
 rw [allB_split hi] at hon
 have : (allB (ns.take i) ++ (real [] ++ allB (ns.drop (i + 1)))).Sublist (allB (ns.take i) ++ (real ns[i].blocks ++ allB (ns.drop (i + 1)))) := by
  refine List.Sublist.append (List.Sublist.refl _) (List.Sublist.append ?_ (List.Sublist.refl _))
  exact List.nil_sublist _
 exact List.Sublist.nodup this hon
end Go.Fw
