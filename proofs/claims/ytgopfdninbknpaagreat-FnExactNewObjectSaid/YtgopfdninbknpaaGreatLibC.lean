/- strings.IndexAny at two ASCII bytes and any text: the library's own code walked. -/
import Derived.Shelf.Strings.IndexAnyAll
import Derived.Shelf.Small.Utf8
import Derived.Laws.Runes
import Derived.WalkMore
import Derived.Shelf.RegionOpenPlain
import Derived.BigQuiet
namespace Go.Proofs
open Go.Shelf Go.RowKit Go.Lib
set_option linter.unusedSimpArgs false
set_option linter.unusedVariables false
variable {P : Program} {ρ : Ren}
theorem get!_at (s : ByteArray) (i : Nat) (h : i < s.size) : s.get! i = s[i] := by
 cases s with
 | mk d =>
  show d[i]! = d[i]
  exact getElem!_pos d i h
theorem decode_wide (s : ByteArray) (i : Nat) (h : i < s.size) (hb : 128 ≤ (s[i]).toNat) :
  (128 ≤ (Utf8.decode s i).1 ∧ Utf8.valid (Utf8.decode s i).1 = true) ∧ 1 ≤ (Utf8.decode s i).2 ∧ i + (Utf8.decode s i).2 ≤ s.size ∧ ∀ j (hj : j < s.size), i ≤ j → j < i + (Utf8.decode s i).2 → 128 ≤ (s[j]).toNat := by
 have one : ∀ j (hj : j < s.size), i ≤ j → j < i + 1 → 128 ≤ (s[j]).toNat := fun j hj h1 h2 => by
  obtain rfl : j = i := by omega
  exact hb
 have h0 : (s.get! (i + 0)).toNat = (s[i]).toNat := by rw [Nat.add_zero, get!_at s i h]
 have hc : ∀ k, (decide (i + k < s.size) && (s.get! (i + k)).toNat / 64 == 2) = true → ∃ hk : i + k < s.size, 128 ≤ (s[i + k]'hk).toNat := fun k hk => by
  simp only [Bool.and_eq_true, decide_eq_true_eq, beq_iff_eq] at hk
  refine ⟨hk.1, ?_⟩
  have := get!_at s (i + k) hk.1
  rw [← this]
  omega
 unfold Utf8.decode
 simp only
 rw [if_neg (by rw [h0]; omega)]
 split
 ·rename_i h1
  rw [Bool.and_eq_true] at h1
  obtain ⟨k1, c1⟩ := hc 1 h1.2
  split
  ·rename_i h2
   refine ⟨⟨h2, ?_⟩, by simp only; omega, by simp only; omega, fun j hj a1 a2 => ?_⟩
   ·simp only [Utf8.valid, Bool.or_eq_true, Bool.and_eq_true, decide_eq_true_eq]
    left
    omega
   ·simp only at a2
    by_cases e : j = i
    ·subst e; exact hb
    ·obtain rfl : j = i + 1 := by omega
     exact c1
  ·exact ⟨⟨by decide, by decide⟩, by simp only; omega, by simp only; omega, one⟩
 split
 ·rename_i h1
  rw [Bool.and_eq_true, Bool.and_eq_true] at h1
  obtain ⟨k1, c1⟩ := hc 1 h1.1.2
  obtain ⟨k2, c2⟩ := hc 2 h1.2
  split
  ·rename_i h2
   rw [Bool.and_eq_true, decide_eq_true_eq] at h2
   refine ⟨⟨by simp only; omega, h2.2⟩, by simp only; omega, by simp only; omega, fun j hj a1 a2 => ?_⟩
   simp only at a2
   by_cases e : j = i
   ·subst e; exact hb
   ·by_cases e2 : j = i + 1
    ·subst e2; exact c1
    ·obtain rfl : j = i + 2 := by omega
     exact c2
  ·exact ⟨⟨by decide, by decide⟩, by simp only; omega, by simp only; omega, one⟩
 split
 ·rename_i h1
  rw [Bool.and_eq_true, Bool.and_eq_true, Bool.and_eq_true] at h1
  obtain ⟨k1, c1⟩ := hc 1 h1.1.1.2
  obtain ⟨k2, c2⟩ := hc 2 h1.1.2
  obtain ⟨k3, c3⟩ := hc 3 h1.2
  split
  ·rename_i h2
   rw [Bool.and_eq_true, decide_eq_true_eq] at h2
   refine ⟨⟨by simp only; omega, h2.2⟩, by simp only; omega, by simp only; omega, fun j hj a1 a2 => ?_⟩
   simp only at a2
   by_cases e : j = i
   ·subst e; exact hb
   ·by_cases e2 : j = i + 1
    ·subst e2; exact c1
    ·by_cases e3 : j = i + 2
     ·subst e3; exact c2
     ·obtain rfl : j = i + 3 := by omega
      exact c3
  ·exact ⟨⟨by decide, by decide⟩, by simp only; omega, by simp only; omega, one⟩
 ·exact ⟨⟨by decide, by decide⟩, by simp only; omega, by simp only; omega, one⟩
theorem run_next_any (w : World) (s : ByteArray) (pos : Nat) (ty : TypeId) (h : pos < s.size) :
  (Instr.next (.pointer (some ⟨w.heap.size, 0, none⟩)) true ty).run P (w.iter s pos) =
   .ok (.tuple #[.bool true, .int .i64 pos, .int .i32 (Utf8.decode s pos).1]) (w.iter s (pos + (Utf8.decode s pos).2)) := by
 simp only [Instr.next, getObj, setObj, Sem.run_bind, Sem.run, World.iter_heap, Result.andThen, h, if_true, World.iter_set]
 simp [goInt, Sem.run, World.iter_heap, World.iter_set]
def World.setIter (w : World) (B : Nat) (s : ByteArray) (pos : Nat) : World := { w with heap := w.heap.setIfInBounds B (.stringIter s pos) }
theorem run_next_more (w : World) (B : Nat) (s : ByteArray) (pos : Nat) (ty : TypeId) (hw : w.heap[B]? = some (.stringIter s pos)) (h : pos < s.size) :
  (Instr.next (.pointer (some ⟨B, 0, none⟩)) true ty).run P w =
   .ok (.tuple #[.bool true, .int .i64 pos, .int .i32 (Utf8.decode s pos).1]) (World.setIter w B s (pos + (Utf8.decode s pos).2)) := by
 simp only [Instr.next, getObj, setObj, Sem.run_bind, Sem.run, hw, Result.andThen, h, if_true]
 simp [goInt, Sem.run, hw, World.setIter]
theorem run_next_done (w : World) (B : Nat) (s : ByteArray) (pos : Nat) (ty : TypeId) (hw : w.heap[B]? = some (.stringIter s pos)) (h : ¬ pos < s.size) :
  (Instr.next (.pointer (some ⟨B, 0, none⟩)) true ty).run P w = .ok (.tuple #[.bool false]) w := by
 simp [Instr.next, getObj, Sem.run, hw, h]
theorem World.setIter_at (w : World) (B : Nat) (s : ByteArray) (pos : Nat) (hB : B < w.heap.size) : (World.setIter w B s pos).heap[B]? = some (.stringIter s pos) := by
 simp [World.setIter, hB]
theorem World.setIter_below (w : World) (B : Nat) (s : ByteArray) (pos : Nat) : Below B w (World.setIter w B s pos) :=
 ⟨rfl, rfl, rfl, by simp [World.setIter], fun k hk => by simp [World.setIter, Array.getElem?_setIfInBounds, Nat.ne_of_gt hk]⟩
theorem World.setIter_size (w : World) (B : Nat) (s : ByteArray) (pos : Nat) : (World.setIter w B s pos).heap.size = w.heap.size := by simp [World.setIter]
theorem NoAny.more {s chars : List UInt8} {i k : Nat} (h : Lib.NoAny s chars i) (hn : ∀ (j : Nat) b, i ≤ j → j < i + k → s[j]? = some b → chars.contains b = false) : Lib.NoAny s chars (i + k) := fun j b hj hb => by
 by_cases e : j < i
 ·exact h j b e hb
 ·exact hn j b (by omega) hj hb
set_option maxHeartbeats 12000000 in
set_option maxRecDepth 1000000 in
theorem Own.IndexRune_err (L : Lays.n152 P ρ) (s : ByteArray) (w : World) (h2 : s.size = 2) (has : ∀ (j : Nat) b, s.data.toList[j]? = some b → b.toNat < 128) :
  Calls P (ρ.f 152) #[.string s, .int .i32 (65533 : Nat)] w fun e w' => e = .returned (.int .i64 (-1)) ∧ Below w.heap.size w w' := by
 have t3 := L.t3; have a3 := L.a3; have z3 := L.z3; have v3 := L.v3
 have t4 := L.t4; have a4 := L.a4; have z4 := L.z4; have v4 := L.v4
 have t5 := L.t5; have a5 := L.a5; have z5 := L.z5; have v5 := L.v5
 have t9 := L.t9; have a9 := L.a9; have z9 := L.z9; have v9 := L.v9
 have mixed := L.mixed
 have t21 := L.t21; have a21 := L.a21; have z21 := L.z21; have v21 := L.v21
 have e137 : ∀ args w, (callFunc (ρ.f 137) args).run P w = .ok (.enter (ρ.f 137) args) w := enters_of L.f137 (by kernel_rfl) rfl
 have HA : Aside (∀ (j : Nat) b, s.data.toList[j]? = some b → b.toNat < 128) := has
 clear has
 go_enter L.f152, Body.n152_ntmps ρ
 go_wp2
 go_loopg [5, 6] s.size (fun g _ _ wx => ∃ i : Nat, i + g = s.size ∧ wx = w.iter s i)
 case atStart => exact ⟨0, by omega, rfl⟩
 case round =>
  obtain ⟨i, hig, rfl⟩ := hrel
  cases gk with
  | zero =>
   obtain rfl : i = 2 := by omega
   have hnx := fun ty => run_next_end (P := P) w s 2 ty (by omega)
   go_wp2
   go_ret
   exact ⟨rfl, (Below.refl _ _).alloc (Nat.le_refl _) _⟩
  | succ g =>
   have hi : i < s.size := by omega
   have hx128 : (s[i]'hi).toNat < 128 := HA.out i _ (Lib.data_getElem? s i hi)
   have hnx := fun ty => run_next_ascii (P := P) w s i ty hi hx128
   have hne : ¬ (((s[i]'hi).toNat : Int) = 65533) := by omega
   go_wp2
   go_roundg g
   case measure => omega
   case rel => exact ⟨i + 1, by omega, rfl⟩
set_option maxHeartbeats 12000000 in
set_option maxRecDepth 1000000 in
theorem Own.IndexRune_wide (L : Lays.n152 P ρ) (s : ByteArray) (r : Nat) (w : World) (h2 : s.size = 2) (has : ∀ (j : Nat) b, s.data.toList[j]? = some b → b.toNat < 128) (h0 : 128 ≤ r) (hv : Utf8.valid r = true) :
  Calls P (ρ.f 152) #[.string s, .int .i32 r] w fun e w' => e = .returned (.int .i64 (-1)) ∧ Below w.heap.size w w' := by
 have t3 := L.t3; have a3 := L.a3; have z3 := L.z3; have v3 := L.v3
 have t4 := L.t4; have a4 := L.a4; have z4 := L.z4; have v4 := L.v4
 have t5 := L.t5; have a5 := L.a5; have z5 := L.z5; have v5 := L.v5
 have t9 := L.t9; have a9 := L.a9; have z9 := L.z9; have v9 := L.v9
 have mixed := L.mixed
 have t21 := L.t21; have a21 := L.a21; have z21 := L.z21; have v21 := L.v21
 have e137 : ∀ args w, (callFunc (ρ.f 137) args).run P w = .ok (.enter (ρ.f 137) args) w := enters_of L.f137 (by kernel_rfl) rfl
 have hr0 : (0 : Int) ≤ (r : Int) := by omega
 have hr1 : ¬ ((r : Int) < 128) := by omega
 by_cases he : r = 65533
 ·subst he
  exact Own.IndexRune_err L s w h2 has
 have he' : ¬ ((r : Int) = 65533) := by omega
 have hvr : Lib.validRune (r : Int) = true := by
  simp only [Lib.validRune, Utf8.valid, Bool.or_eq_true, Bool.and_eq_true, decide_eq_true_eq] at hv ⊢
  omega
 have e119 : ∀ args w, (callFunc (ρ.f 119) args).run P w = .ok (.enter (ρ.f 119) args) w := enters_of L.f119 (by kernel_rfl) rfl
 obtain ⟨E, hE⟩ : ∃ E, E = Utf8.encode (r : Int) := ⟨_, rfl⟩
 go_enter L.f152, Body.n152_ntmps ρ
 go_wp2_with (first
  |(go_at_fn (ρ.f 119); refine (Any.utf8_ValidRune { L with } _ _).mono ?_; rintro e w' ⟨rfl, hw⟩; rw [hw, hvr])
  |(go_at_fn (ρ.f 137); refine (Any.strings_IndexByte { L with } _ _ _).mono ?_; rintro e w' ⟨rfl, hw⟩; rw [hw]))
 have hef := encode_facts (r : Int) hv (by omega)
 have hsc : ∀ w : World, (convert (ρ.t 21) (ρ.t 9) (.int .i32 (r : Int))).run P w = .ok (.string E) w := fun w => by
  rw [hE]
  exact run_convert_int_string w (ρ.t 21) (ρ.t 9) .i32 (r : Int) (by rw [t21]; rfl) t9
 rw [← hE] at hef
 clear hE
 go_step3
 go_wp2
 go_loopg [9] 0 (fun g s9 wx => s9 = Value.int .i64 ((E.size : Int) - 1) ∧ wx = w)
 case atStart => exact ⟨rfl, rfl⟩
 case round =>
  obtain ⟨rfl, rfl⟩ := hrel
  by_cases hE2 : E.size = 2
  ·have hi1 : ((E.size : Int) - 1 < (s.size : Int)) := by omega
   have hn1 : 1 < s.size := by omega
   have hn2 : 1 < E.size := by omega
   have hb1 : (s[1]'hn1).toNat < 128 := has 1 _ (Lib.data_getElem? s 1 hn1)
   have hb2 : 128 ≤ (E[1]'hn2).toNat := by
    have := hef.2.2 (by omega)
    simpa [hE2] using this
   have hE1 : (E.size : Int) - 1 = 1 := by omega
   have hne : ¬ s[1]'hn1 = E[1]'hn2 := fun e => by rw [e] at hb1; omega
   have hwr : IntKind.i64.wrap 2 = 2 := by decide
   have hix1 : ∀ c, Lib.indexByte (ByteArray.empty).data.toList c = -1 := fun _ => rfl
   have hix2 : ∀ c, Lib.indexByte [] c = -1 := fun _ => rfl
   rw [hE1] at hi1 ⊢
   go_wp2
   go_step3
   go_wp2
   go_quiet_o (fail)
   generalize hW : wr.drewN nq = W
   go_wp2
   go_quiet_o ((go_at_fn (ρ.f 137); refine Calls.quiet_of_same (v := .int .i64 (-1)) ((Any.strings_IndexByte { L with } _ _ _).mono ?_); rintro e w' ⟨rfl, hw⟩; exact ⟨by first | rfl | simp [Lib.indexByte], hw⟩))
   go_wp2
   all_goals (dsimp only [Exit.noGoto, Exit.inBlock, Exit.then]; go_ret; exact ⟨rfl, by subst hW; exact ⟨rfl, rfl, rfl, Nat.le_refl _, fun _ _ => rfl⟩⟩)
  ·have hi1 : ¬ ((E.size : Int) - 1 < (s.size : Int)) := by omega
   go_wp2
   go_ret
   exact ⟨rfl, Below.refl _ _⟩
set_option maxHeartbeats 12000000 in
set_option maxRecDepth 1000000 in
theorem Own.IndexAny_short (L : Lays.n153 P ρ) (s chars : ByteArray) (w : World) (h2 : chars.size = 2) (h8 : s.size ≤ 8) (hascii : ∀ (j : Nat) b, chars.data.toList[j]? = some b → b.toNat < 128) :
  Calls P (ρ.f 153) #[.string s, .string chars] w fun e w' => e = .returned (.int .i64 (Lib.indexAny s.data.toList chars.data.toList)) ∧ Below w.heap.size w w' := by
 have HA : Aside (∀ (j : Nat) b, chars.data.toList[j]? = some b → b.toNat < 128) := hascii
 clear hascii
 have hemp : chars.toList.isEmpty = false := by
  rw [Lib.toList_data]
  cases h : chars.data.toList with
  | nil => have := Lib.size_eq chars; rw [h, List.length_nil] at this; omega
  | cons _ _ => rfl
 have hn1 : ((chars.size : Int) == 1) = false := beq_eq_false_iff_ne.2 (by omega)
 have h8z : decide ((8 : Int) < (s.size : Int)) = false := decide_eq_false (by omega)
 have t3 := L.t3; have a3 := L.a3; have z3 := L.z3; have v3 := L.v3
 have t4 := L.t4; have a4 := L.a4; have z4 := L.z4; have v4 := L.v4
 have t5 := L.t5; have a5 := L.a5; have z5 := L.z5; have v5 := L.v5
 have t9 := L.t9; have a9 := L.a9; have z9 := L.z9; have v9 := L.v9
 have t21 := L.t21; have a21 := L.a21; have z21 := L.z21; have v21 := L.v21
 have e152 : ∀ args w, (callFunc (ρ.f 152) args).run P w = .ok (.enter (ρ.f 152) args) w := enters_of L.f152 (by kernel_rfl) rfl
 have e226 : ∀ args w, (callFunc (ρ.f 226) args).run P w = .ok (.enter (ρ.f 226) args) w := enters_of L.f226 (by kernel_rfl) rfl
 go_enter L.f153, Body.n153_ntmps ρ
 go_wp2_with (go_at_fn (ρ.f 226); refine (Any.strings_shouldUseASCIISet { L with } _ _).mono ?_; rintro e w' ⟨rfl, hw⟩; rw [hw, h8z])
 go_loopg [9, 10] s.size (fun g _ _ wx => ∃ i : Nat, i + g = s.size ∧ wx.heap[w.heap.size]? = some (.stringIter s i) ∧ Below w.heap.size w wx ∧ Lib.NoAny s.data.toList chars.data.toList i)
 case atStart => exact ⟨0, by omega, World.iter_heap w s 0, (Below.refl _ _).alloc (Nat.le_refl _) _, Lib.NoAny.zero _ _⟩
 case round =>
  obtain ⟨i, hig, hat, hbel, hno⟩ := hrel
  have HN : Aside (Lib.NoAny s.data.toList chars.data.toList i) := hno
  have HB : Aside (Below w.heap.size w wr) := hbel
  clear hno hbel
  have hBlt : w.heap.size < wr.heap.size := (Array.getElem?_eq_some_iff.1 hat).1
  cases gk with
  | zero =>
   obtain rfl : i = s.size := by omega
   have hnx := fun ty => run_next_done (P := P) wr w.heap.size s s.size ty hat (by omega)
   clear hat
   go_wp2
   go_ret
   exact ⟨by rw [Lib.indexAny_none (by rw [← Lib.size_eq]; exact HN.out)]; rfl, HB.out⟩
  | succ g =>
   have hi : i < s.size := by omega
   have hnx := fun ty => run_next_more (P := P) wr w.heap.size s i ty hat hi
   clear hat
   obtain ⟨x, hx⟩ : ∃ x : UInt8, s[i]'hi = x := ⟨_, rfl⟩
   have hxl : s.data.toList[i]? = some x := by rw [← hx]; exact Lib.data_getElem? s i hi
   have Hx : Aside (s.data.toList[i]? = some x) := hxl
   have hset : Aside (∀ p, (World.setIter wr w.heap.size s p).heap[w.heap.size]? = some (.stringIter s p)) := fun p => World.setIter_at wr w.heap.size s p hBlt
   have hsb : Aside (∀ p, Below w.heap.size w (World.setIter wr w.heap.size s p)) := fun p => HB.out.trans (World.setIter_below wr w.heap.size s p)
   have hss : Aside (∀ p, w.heap.size < (World.setIter wr w.heap.size s p).heap.size) := fun p => by rw [World.setIter_size]; exact hBlt
   by_cases hx128 : x.toNat < 128
   ·rw [decode_ascii s i hi (by rw [hx]; exact hx128), hx] at hnx
    clear hxl hx
    have hcon := Lib.contains_iff_indexByte chars.data.toList x
    have hback : ((x.toNat : Int)).toNat.toUInt8 = x := by simp
    cases hin : chars.data.toList.contains x
    ·rw [hin] at hcon
     have hlt : ¬ ((0 : Int) ≤ Lib.indexByte chars.data.toList x) := of_decide_eq_false hcon.symm
     clear hcon
     go_wp2_with (go_at_fn (ρ.f 152); refine (Any.strings_IndexRune_ascii { L with } _ _ _ (by omega) (by omega)).mono ?_; rintro e w' ⟨rfl, hw⟩; rw [hw, hback])
     go_roundg g
     case measure => omega
     case rel => exact ⟨i + 1, by omega, hset.out _, hsb.out _, HN.out.succ Hx.out hin⟩
    ·rw [hin] at hcon
     have hge : (0 : Int) ≤ Lib.indexByte chars.data.toList x := of_decide_eq_true hcon.symm
     clear hcon
     go_wp2_with (go_at_fn (ρ.f 152); refine (Any.strings_IndexRune_ascii { L with } _ _ _ (by omega) (by omega)).mono ?_; rintro e w' ⟨rfl, hw⟩; rw [hw, hback])
     go_ret
     exact ⟨by rw [Lib.indexAny_hit HN.out Hx.out hin]; rfl, hsb.out _⟩
   ·obtain ⟨⟨hr1, hr2⟩, hk1, hk2, hall⟩ := decode_wide s i hi (by rw [hx]; omega)
    obtain ⟨r, hr⟩ : ∃ r, r = (Utf8.decode s i).1 := ⟨_, rfl⟩
    obtain ⟨k, hk⟩ : ∃ k, k = (Utf8.decode s i).2 := ⟨_, rfl⟩
    rw [← hr] at hr1 hr2
    rw [← hk] at hk1 hk2
    have HAll : Aside (∀ (j : Nat) (hj : j < s.size), i ≤ j → j < i + k → 128 ≤ (s[j]).toNat) := by rw [hk]; exact hall
    clear hall
    rw [← hr, ← hk] at hnx
    clear hr hk hxl hx
    go_wp2_with (go_at_fn (ρ.f 152); refine (Own.IndexRune_wide { L with } _ _ _ h2 HA.out hr1 hr2).mono ?_; rintro e w' ⟨rfl, hw⟩; have Hw : Aside _ := hw; clear hw)
    go_roundg (g + 1 - k)
    case measure => omega
    case rel =>
     refine ⟨i + k, by omega, (Hw.out.block _ (hss.out _)).trans (hset.out _), (hsb.out _).trans (Hw.out.mono (Nat.le_of_lt (hss.out _))), NoAny.more HN.out ?_⟩
     intro j b a1 a2 hb
     have hj : j < s.size := by omega
     have h3 := HAll.out j hj a1 a2
     have h4 : s[j] = b := by have := Lib.data_getElem? s j hj; rw [this] at hb; exact Option.some.inj hb
     cases hcb : chars.data.toList.contains b with
     | false => rfl
     | true =>
      obtain ⟨q, hq⟩ := List.getElem?_of_mem (List.contains_iff_mem.1 hcb)
      have := HA.out q b hq
      rw [h4] at h3
      omega
theorem Own.IndexAny (L : Lays.n153 P ρ) (h116 : (P.info? (ρ.t 116)).map (fun i => (i.zero, i.size)) = some (some (.agg (Array.replicate 256 (.bool false))), 256)) (s chars : ByteArray) (w : World) (hs : s.size < 4294967281) (h2 : chars.size = 2)
  (hac : ∀ (j : Nat) b, chars.data.toList[j]? = some b → b.toNat < 128) :
  Calls P (ρ.f 153) #[.string s, .string chars] w fun e w' => e = .returned (.int .i64 (Lib.indexAny s.data.toList chars.data.toList)) ∧ Below w.heap.size w w' := by
 by_cases h8 : s.size ≤ 8
 ·exact Own.IndexAny_short L s chars w h2 h8 hac
 ·refine (Any.strings_IndexAny_long L (zero_of_info h116).1 (zero_of_info h116).2 s chars w (by omega) (by omega) hs (by omega) hac).mono fun e w' ⟨h1, h2⟩ => ⟨h1, ?_⟩
  rw [h2]
  exact ((Below.refl _ _).alloc (Nat.le_refl _) _).alloc (by simp) _
set_option maxHeartbeats 1000000 in
theorem Own.ContainsAny (L : Lays.n150 P ρ) (h116 : (P.info? (ρ.t 116)).map (fun i => (i.zero, i.size)) = some (some (.agg (Array.replicate 256 (.bool false))), 256)) (s chars : ByteArray) (w : World) (hs : s.size < 4294967281) (h2 : chars.size = 2)
  (hac : ∀ (j : Nat) b, chars.data.toList[j]? = some b → b.toNat < 128) :
  Calls P (ρ.f 150) #[.string s, .string chars] w fun e w' => e = .returned (.bool (Lib.containsAny s.data.toList chars.data.toList)) ∧ Below w.heap.size w w' := by
 have c := Own.IndexAny { L with } h116 s chars w hs h2 hac
 have t3 := L.t3; have a3 := L.a3; have z3 := L.z3; have v3 := L.v3
 have t4 := L.t4; have a4 := L.a4; have z4 := L.z4; have v4 := L.v4
 have t9 := L.t9; have a9 := L.a9; have z9 := L.z9; have v9 := L.v9
 have e153 : ∀ args w, (callFunc (ρ.f 153) args).run P w = .ok (.enter (ρ.f 153) args) w := enters_of L.f153 (by kernel_rfl) rfl
 go_enter L.f150, Body.n150_ntmps ρ
 go_wp2_with (go_at_fn (ρ.f 153); refine c.mono ?_; rintro e w' ⟨rfl, hw⟩)
 go_ret
 exact ⟨rfl, hw⟩
end Go.Proofs
