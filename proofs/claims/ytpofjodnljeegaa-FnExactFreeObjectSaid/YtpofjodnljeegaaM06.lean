/- Plain models: numbers, lists of entries, credentials, modes. -/
import Derived.Test.YtpofjodnljeegaaDat
namespace Go.Fw
set_option linter.unusedVariables false
noncomputable def tr (p : Prop) : Bool := @decide p (Classical.propDecidable p)
theorem tr_iff {p : Prop} : tr p = true ↔ p := by
 unfold tr
 exact @decide_eq_true_iff p (Classical.propDecidable p)
theorem tr_not {p : Prop} : tr p = false ↔ ¬ p := by
 unfold tr
 exact @decide_eq_false_iff_not p (Classical.propDecidable p)
theorem tr_yes {p : Prop} (h : p) : tr p = true := tr_iff.2 h
theorem tr_no {p : Prop} (h : ¬ p) : tr p = false := tr_not.2 h
abbrev IsUser (u : Int) : Prop := 0 ≤ u ∧ u < 4
abbrev IsMode (m : Int) : Prop := 0 ≤ m ∧ m ≤ 2047
def AclOK (e : DAcl) : Prop := (0 ≤ e.perm ∧ e.perm ≤ 7) ∧ ((e.tag = 1 ∨ e.tag = 2) ∧ 0 ≤ e.id ∧ e.id < 4 ∨ e.tag = 3 ∧ e.id = 0)
def AclLt (a b : DAcl) : Prop := a.tag < b.tag ∨ a.tag = b.tag ∧ a.id < b.id
def AclAt (l : List DAcl) (i : Nat) : Prop := ∀ e, l[i]? = some e → AclOK e ∧ ∀ d j, j + 1 = i → l[j]? = some d → AclLt d e
def IsAcl (l : List DAcl) : Prop := l.length ≤ 6 ∧ (∀ i < l.length, AclAt l i) ∧ (∀ e, l.getLast? = some e → e.tag = 3)
noncomputable abbrev isAcl (l : List DAcl) : Bool := tr (IsAcl l)
def CredAt (l : List Int) (i : Nat) : Prop := ∀ e, l[i]? = some e → IsUser e ∧ ∀ d j, j + 1 = i → l[j]? = some d → d < e
def IsCred (c : DCred) : Prop := (∀ i < c.groups.length, CredAt c.groups i) ∧ IsUser c.uid ∧ IsUser c.gid
noncomputable abbrev isCred (c : DCred) : Bool := tr (IsCred c)
theorem lt_succ_all {P : Nat → Prop} {i : Nat} (h : ∀ k < i, P k) (hi : P i) : ∀ k < i + 1, P k := fun k hk => by
 rcases Nat.lt_or_ge k i with h1 | h1
 ·exact h k h1
 ·obtain rfl : k = i := by omega
  exact hi
def maskOf : List DAcl → Int
 | [] => 7
 | e :: l => if e.tag = 3 then e.perm else maskOf l
def aclPerm (l : List DAcl) (t i : Int) : Int × Bool := match l with
 | [] => (0, false)
 | e :: l => if e.tag = t ∧ e.id = i then (e.perm, true) else aclPerm l t i
theorem aclAt_zero {l : List DAcl} (h : 0 < l.length) : AclAt l 0 ↔ AclOK l[0] := by
 constructor
 ·intro H
  exact (H _ (List.getElem?_eq_getElem h)).1
 ·intro H e he
  rw [List.getElem?_eq_getElem h] at he
  cases he
  exact ⟨H, fun d j hj => absurd hj (by omega)⟩
theorem aclAt_succ {l : List DAcl} {j : Nat} (h : j + 1 < l.length) : AclAt l (j + 1) ↔ AclOK l[j + 1] ∧ AclLt (l[j]'(by omega)) l[j + 1] := by
 constructor
 ·intro H
  have := H _ (List.getElem?_eq_getElem h)
  exact ⟨this.1, this.2 _ j rfl (List.getElem?_eq_getElem (by omega))⟩
 ·rintro ⟨H1, H2⟩ e he
  rw [List.getElem?_eq_getElem h] at he
  cases he
  refine ⟨H1, fun d k hk hd => ?_⟩
  obtain rfl : k = j := by omega
  rw [List.getElem?_eq_getElem (by omega)] at hd
  cases hd
  exact H2
theorem isAcl_at {l : List DAcl} {i : Nat} (h : i < l.length) (hn : ¬ AclAt l i) : isAcl l = false := tr_no fun H => hn (H.2.1 i h)
theorem isAcl_long {l : List DAcl} (h : ¬ l.length ≤ 6) : isAcl l = false := tr_no fun H => h H.1
theorem isAcl_nil {l : List DAcl} (h : l.length = 0) : isAcl l = true := by
 cases l with
 | nil => exact tr_yes ⟨by simp, fun i hi => absurd hi (Nat.not_lt_zero i), by simp⟩
 | cons => simp at h
theorem isAcl_end {l : List DAcl} (h : ∀ k < l.length, AclAt l k) (hl : l.length - 1 < l.length) (h6 : l.length ≤ 6) : isAcl l = decide (l[l.length - 1].tag = 3) := by
 rw [Bool.eq_iff_iff, tr_iff, decide_eq_true_eq]
 have hg : l.getLast? = some l[l.length - 1] := by rw [List.getLast?_eq_getElem?, List.getElem?_eq_getElem hl]
 constructor
 ·intro H
  exact H.2.2 _ hg
 ·intro H
  refine ⟨h6, h, fun e he => ?_⟩
  rw [hg] at he
  cases he
  exact H
theorem credAt_zero {l : List Int} (h : 0 < l.length) : CredAt l 0 ↔ IsUser l[0] := by
 constructor
 ·intro H
  exact (H _ (List.getElem?_eq_getElem h)).1
 ·intro H e he
  rw [List.getElem?_eq_getElem h] at he
  cases he
  exact ⟨H, fun d j hj => absurd hj (by omega)⟩
theorem credAt_succ {l : List Int} {j : Nat} (h : j + 1 < l.length) : CredAt l (j + 1) ↔ IsUser l[j + 1] ∧ (l[j]'(by omega)) < l[j + 1] := by
 constructor
 ·intro H
  have := H _ (List.getElem?_eq_getElem h)
  exact ⟨this.1, this.2 _ j rfl (List.getElem?_eq_getElem (by omega))⟩
 ·rintro ⟨H1, H2⟩ e he
  rw [List.getElem?_eq_getElem h] at he
  cases he
  refine ⟨H1, fun d k hk hd => ?_⟩
  obtain rfl : k = j := by omega
  rw [List.getElem?_eq_getElem (by omega)] at hd
  cases hd
  exact H2
theorem isCred_at {c : DCred} {i : Nat} (h : i < c.groups.length) (hn : ¬ CredAt c.groups i) : isCred c = false := tr_no fun H => hn (H.1 i h)
theorem isCred_end {c : DCred} (h : ∀ k < c.groups.length, CredAt c.groups k) : isCred c = (decide (IsUser c.uid) && decide (IsUser c.gid)) := by
 rw [Bool.eq_iff_iff, tr_iff, Bool.and_eq_true, decide_eq_true_eq, decide_eq_true_eq]
 exact ⟨fun H => H.2, fun H => ⟨h, H⟩⟩
def inGroup (c : DCred) (g : Int) : Bool := decide (g = c.gid) || decide (g ∈ c.groups)
def permOf (m : Int) (k : Nat) : Int := if IsMode m then m / 8 ^ (2 - k) % 8 else 0
def iAnd (a b : Int) : Int := IntKind.wrap .i64 ((BitVec.ofInt 64 a &&& BitVec.ofInt 64 b).toNat)
def iOr (a b : Int) : Int := IntKind.wrap .i64 ((BitVec.ofInt 64 a ||| BitVec.ofInt 64 b).toNat)
def iAndNot (a b : Int) : Int := IntKind.wrap .i64 ((BitVec.ofInt 64 a &&& ~~~ BitVec.ofInt 64 b).toNat)
@[simp high] theorem bin_and {a b : Int} : intBin .and .i64 a b = some (.int .i64 (iAnd a b)) := rfl
@[simp high] theorem bin_or {a b : Int} : intBin .or .i64 a b = some (.int .i64 (iOr a b)) := rfl
@[simp high] theorem bin_andNot {a b : Int} : intBin .andNot .i64 a b = some (.int .i64 (iAndNot a b)) := rfl
@[simp] theorem wrap_and {a b : Int} : IntKind.wrap .i64 (((a % 2 ^ IntKind.bits .i64).toNat &&& (b % 2 ^ IntKind.bits .i64).toNat : Nat)) = iAnd a b := by
 unfold iAnd
 rw [BitVec.toNat_and, BitVec.toNat_ofInt, BitVec.toNat_ofInt]
 rfl
@[simp] theorem wrap_and_lit {a : Int} {n : Nat} : IntKind.wrap .i64 (((a % 2 ^ IntKind.bits .i64).toNat &&& (n % 2 ^ IntKind.bits .i64) : Nat)) = iAnd a n := by
 rw [← wrap_and]
 congr 2
theorem iAnd_nat {a b : Nat} (ha : a < 2 ^ 63) (hb : b < 2 ^ 63) : iAnd a b = ((a &&& b : Nat) : Int) := by
 unfold iAnd
 have h1 : (BitVec.ofInt 64 (a : Int)).toNat = a := by simp; omega
 have h2 : (BitVec.ofInt 64 (b : Int)).toNat = b := by simp; omega
 rw [BitVec.toNat_and, h1, h2]
 have h3 : a &&& b ≤ a := Nat.and_le_left
 exact wrap64_in (by omega) (by omega)
theorem iAnd_low {a : Int} {k : Nat} (h0 : 0 ≤ a) (h1 : a < 2 ^ 63) (hk : k < 63) : iAnd a ((2 ^ k - 1 : Nat) : Int) = a % 2 ^ k := by
 obtain ⟨n, rfl⟩ := Int.eq_ofNat_of_zero_le h0
 have hk' : 2 ^ k - 1 < 2 ^ 63 := by
  have : 2 ^ k ≤ 2 ^ 63 := Nat.pow_le_pow_right (by omega) (by omega)
  omega
 rw [iAnd_nat (by exact_mod_cast h1) hk', Nat.and_two_pow_sub_one_eq_mod]
 push_cast
 rfl
def hasP (p w : Int) : Bool := decide (iAnd p w = w)
def perms0 (c : DCred) (gid mode : Int) : List Int := if inGroup c gid then [permOf mode 1] else []
def permsL (c : DCred) (acl : List DAcl) : List Int := (acl.filter (fun e => decide (e.tag = 2) && inGroup c e.id)).map DAcl.perm
noncomputable def allowed (c : DCred) (uid gid mode : Int) (acl : List DAcl) (want : Int) : Bool :=
 if isCred c && isAcl acl && decide (IsUser uid) && decide (IsUser gid) && decide (IsMode mode) && decide (0 ≤ want) && decide (want ≤ 7) then
  if c.uid = 0 then true else if c.uid = uid then hasP (permOf mode 0) want
  else if (aclPerm acl 1 c.uid).2 then hasP (iAnd (aclPerm acl 1 c.uid).1 (maskOf acl)) want
  else if 0 < (perms0 c gid mode ++ permsL c acl).length then hasP (maskOf acl) want && (perms0 c gid mode ++ permsL c acl).any (fun p => hasP p want)
  else hasP (permOf mode 2) want
 else false
end Go.Fw
