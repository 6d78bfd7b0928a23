import Derived.Test.YtiafmpcmmohdkaaLibH
import Derived.Test.YtiafmpcmmohdkaaP17
import Derived.Test.YtiafmpcmmohdkaaMC
import Derived.Test.YtiafmpcmmohdkaaBx
import Derived.Test.YtiafmpcmmohdkaaP10
import Derived.Test.YtiafmpcmmohdkaaP12
namespace Go.Proofs.Ytiafmpcmmohdkaa
open Go.Fw
set_option linter.unusedVariables false
set_option linter.unusedSimpArgs false
set_option maxHeartbeats 4000000
set_option maxRecDepth 8000
structure SI (s : Str) (i : Nat) (out : List Str) (a : Nat) : Prop where
 cut : splitS s = out ++ cutS ((s.drop a).take (i - a)) (s.drop i)
 le : a ≤ i
 len : out.length ≤ i
theorem SI.start {s : Str} : SI s 0 [] 0 := ⟨by simp [splitS], Nat.le_refl _, Nat.le_refl _⟩
theorem SI.yes {s : Str} {i a : Nat} {out : List Str} (h : SI s i out a) (hi : i < s.length) (he : s[i] = 47) : SI s (i + 1) (out ++ [(s.drop a).take (i - a)]) (i + 1) := by
 have := h.cut
 rw [cutS_at hi h.le, if_pos he] at this
 exact ⟨by rw [this]; simp, Nat.le_refl _, by have := h.len; simp; omega⟩
theorem SI.no {s : Str} {i a : Nat} {out : List Str} (h : SI s i out a) (hi : i < s.length) (he : ¬ s[i] = 47) : SI s (i + 1) out a := by
 have := h.cut
 rw [cutS_at hi h.le, if_neg he] at this
 exact ⟨this, by have := h.le; omega, by have := h.len; omega⟩
theorem SI.done {s : Str} {a : Nat} {out : List Str} (h : SI s s.length out a) : splitS s = out ++ [s.drop a] := by
 have := h.cut
 rwa [cutS_end] at this
theorem byte_ne {b : UInt8} (h : ¬ b = 47) : ¬ b.toNat = 47 := fun e => h (UInt8.toNat_inj.1 e)
theorem impl_SplitAny (s : Str) (hs : s.length ≤ 1048576) : Snd Try.prog 15 [.str s, .str [47]] (.row 1 ((splitS s).map cs)) [.unk, .unk] := Runs.snd (M := M) (c := ⟨2, [4, 5, 6, 7, 10, 11, 12, 19], [], [(1, [0, 1, 4, 5, 6, 10, 11, 12, 19])]⟩) tok ks mixed Try.func15 (p := []) (by kernel_rfl) (by rfl) (by rfl) <| by
 obtain ⟨R, hR⟩ : ∃ R, R = splitS s := ⟨_, rfl⟩
 rw [← hR]
 (try simp -implicitDefEqProofs (disch := first | exact dd | fail) [Try.f15]); (repeat' ((with_reducible first | (refine Br.out ?_ ?_ <;> intro h <;> (try (have h0 := h; simp only [bH] at h))) | fail) <;> (try simp -implicitDefEqProofs (disch := first | exact dd | fail) [Try.f15])))
 refine AL_fors (σ := List Str × Nat) 11 s.length (fun i y => [(5, .ref 640 none 1 0 y.1.length (some false)), (6, .int .i64 (y.2 : Nat))]) (fun i y => [(640, .row 1 (y.1.map cs) [])]) (fun i y => SI s i y.1 y.2) ([], 0) rfl SI.start (fun i y n hlt hI ih => ?_) (fun y n hI => ?_)
 ·obtain ⟨out, a⟩ := y
  simp only at hI ⊢
  have ht := takeM (f := cs) (show out.length = out.length from rfl)
  have hc := strings_IndexByte [47] s[i]
  have hle := hI.le
  have hln := hI.len
  have e1 : ((i : Int) - a).toNat = i - a := by omega
  by_cases he : s[i] = 47
  ·have hj := ih (out ++ [(s.drop a).take (i - a)], i + 1) (hI.yes hlt he)
   simp only [List.map_append, List.map_cons, List.map_nil, cs, List.length_append, List.length_cons, List.length_nil, Nat.zero_add] at hj
   have hn : s[i].toNat = 47 := by rw [he]; rfl
   rw [he, show Lib.indexByte [47] 47 = 0 from rfl] at hc
   rw [show ((47 : UInt8).toNat : Int) = 47 from rfl] at hc
   (try simp -implicitDefEqProofs (disch := first | exact dd | fail) [Try.f15, hlt, hn, e1, ht]); (repeat' ((with_reducible first | (refine Br.out ?_ ?_ <;> intro h <;> (try (have h0 := h; simp only [bH] at h))) | refine AC_snd (hc) ?_ | fail) <;> (try simp -implicitDefEqProofs (disch := first | exact dd | fail) [Try.f15, hlt, hn, e1, ht])))
   all_goals first | exact hj
  ·have hj := ih (out, a) (hI.no hlt he)
   have hi1 : Lib.indexByte [47] s[i] = -1 := by
    have : ¬ (47 : UInt8) = s[i] := fun e => he e.symm
    simp [Lib.indexByte, this]
   rw [hi1] at hc
   (try simp -implicitDefEqProofs (disch := first | exact dd | fail) [Try.f15, hlt]); (repeat' ((with_reducible first | (refine Br.out ?_ ?_ <;> intro h <;> (try (have h0 := h; simp only [bH] at h))) | refine AC_snd (hc) ?_ | fail) <;> (try simp -implicitDefEqProofs (disch := first | exact dd | fail) [Try.f15, hlt])))
   all_goals first | exact hj
 ·obtain ⟨out, a⟩ := y
  simp only at hI ⊢
  have ht := takeM (f := cs) (show out.length = out.length from rfl)
  have hle := hI.le
  have hln := hI.len
  have hd := hI.done
  have e2 : (s.drop a).take ((s.length : Int) - a).toNat = s.drop a := List.take_of_length_le (by rw [List.length_drop]; omega)
  rw [hR, hd]
  (try simp -implicitDefEqProofs (disch := first | exact dd | fail) [Try.f15, ht, e2]); (repeat' ((with_reducible first | (refine Br.out ?_ ?_ <;> intro h <;> (try (have h0 := h; simp only [bH] at h))) | fail) <;> (try simp -implicitDefEqProofs (disch := first | exact dd | fail) [Try.f15, ht, e2])))
  exact List.take_of_length_le (by rw [List.length_drop]; omega)
set_option maxHeartbeats 4000000
set_option maxRecDepth 8000
theorem spec_SplitAny (s : Str) (hs : s.length ≤ 1048576) : Snd Try.prog 14 [.str s, .str [47]] (.row 1 ((splitS s).map cs)) [.unk, .unk] := Runs.snd (M := M) (c := ⟨2, [4, 5, 6, 7, 8, 13, 19, 28], [], [(1, [0, 1, 4, 5, 6, 7, 13, 19, 28])]⟩) tok ks mixed Try.func14 (p := []) (by kernel_rfl) (by rfl) (by rfl) <| by
 obtain ⟨R, hR⟩ : ∃ R, R = splitS s := ⟨_, rfl⟩
 rw [← hR]
 (try simp -implicitDefEqProofs (disch := first | exact dd | fail) [Try.f14]); (repeat' ((with_reducible first | (refine Br.out ?_ ?_ <;> intro h <;> (try (have h0 := h; simp only [bH] at h))) | fail) <;> (try simp -implicitDefEqProofs (disch := first | exact dd | fail) [Try.f14])))
 refine AL_fors (σ := List Str × Nat) 7 s.length (fun i y => [(5, .ref 640 none 1 0 y.1.length (some false)), (6, .int .i64 (y.2 : Nat))]) (fun i y => [(640, .row 1 (y.1.map cs) [])]) (fun i y => SI s i y.1 y.2) ([], 0) rfl SI.start (fun i y n hlt hI ih => ?_) (fun y n hI => ?_)
 ·obtain ⟨out, a⟩ := y
  simp only at hI ⊢
  have ht := takeM (f := cs) (show out.length = out.length from rfl)
  have hle := hI.le
  have hln := hI.len
  have e1 : ((i : Int) - a).toNat = i - a := by omega
  (try simp -implicitDefEqProofs (disch := first | exact dd | fail) [Try.f14, hlt]); (repeat' ((with_reducible first | (refine Br.out ?_ ?_ <;> intro h <;> (try (have h0 := h; simp only [bH] at h))) | fail) <;> (try simp -implicitDefEqProofs (disch := first | exact dd | fail) [Try.f14, hlt])))
  refine AL_up (fun k => 1 - k) (fun k => [(8, .int .i64 (k : Nat))]) (fun _ => []) (fun k => k ≤ 1 ∧ (k = 1 → ¬ s[i] = 47)) 0 rfl ⟨by omega, by omega⟩ ?_
  rintro k m ⟨hk, hk1⟩ jh
  rcases Nat.lt_or_ge k 1 with hk0 | hk0
  ·obtain rfl : k = 0 := by omega
   by_cases he : s[i] = 47
   ·have hj := ih (out ++ [(s.drop a).take (i - a)], i + 1) (hI.yes hlt he)
    simp only [List.map_append, List.map_cons, List.map_nil, cs, List.length_append, List.length_cons, List.length_nil, Nat.zero_add] at hj
    (try simp -implicitDefEqProofs (disch := first | exact dd | fail) [Try.f14, hlt, he, e1, ht]); (repeat' ((with_reducible first | (refine Br.out ?_ ?_ <;> intro h <;> (try (have h0 := h; simp only [bH] at h))) | fail) <;> (try simp -implicitDefEqProofs (disch := first | exact dd | fail) [Try.f14, hlt, he, e1, ht])))
    all_goals first | exact hj
   ·have hj := jh 1 ⟨by omega, fun _ => he⟩ (by omega)
    have hne := byte_ne he
    (try simp -implicitDefEqProofs (disch := first | exact dd | fail) [Try.f14, hlt, he, hne]); (repeat' ((with_reducible first | (refine Br.out ?_ ?_ <;> intro h <;> (try (have h0 := h; simp only [bH] at h))) | fail) <;> (try simp -implicitDefEqProofs (disch := first | exact dd | fail) [Try.f14, hlt, he, hne])))
    all_goals first | exact hj
  ·obtain rfl : k = 1 := by omega
   have hj := ih (out, a) (hI.no hlt (hk1 rfl))
   (try simp -implicitDefEqProofs (disch := first | exact dd | fail) [Try.f14]); (repeat' ((with_reducible first | (refine Br.out ?_ ?_ <;> intro h <;> (try (have h0 := h; simp only [bH] at h))) | fail) <;> (try simp -implicitDefEqProofs (disch := first | exact dd | fail) [Try.f14])))
   all_goals first | exact hj
 ·obtain ⟨out, a⟩ := y
  simp only at hI ⊢
  have ht := takeM (f := cs) (show out.length = out.length from rfl)
  have hle := hI.le
  have hln := hI.len
  have hd := hI.done
  have e2 : (s.drop a).take ((s.length : Int) - a).toNat = s.drop a := List.take_of_length_le (by rw [List.length_drop]; omega)
  rw [hR, hd]
  (try simp -implicitDefEqProofs (disch := first | exact dd | fail) [Try.f14, ht, e2]); (repeat' ((with_reducible first | (refine Br.out ?_ ?_ <;> intro h <;> (try (have h0 := h; simp only [bH] at h))) | fail) <;> (try simp -implicitDefEqProofs (disch := first | exact dd | fail) [Try.f14, ht, e2])))
  exact List.take_of_length_le (by rw [List.length_drop]; omega)
theorem splitP_cons {b : UInt8} {t : Str} (h : ¬ b :: t = [47]) : splitP (b :: t) = if b = 47 then (if (splitS t).all nameOK = true ∧ (splitS t).length ≤ 8 then (splitS t, true) else ([], false)) else ([], false) := by
 unfold splitP
 rw [if_neg h]
 simp
theorem all_at {l : List Str} {j : Nat} (h : j < l.length) : (l.drop j).all nameOK = (nameOK l[j] && (l.drop (j + 1)).all nameOK) := by
 rw [List.drop_eq_getElem_cons h, List.all_cons]
theorem impl_SplitPath (p : Str) (hp : p.length ≤ 1048576) : Snd Try.prog 8 [.str p] (.tup [.row 1 ((splitP p).1.map cs), .bool (splitP p).2]) [.unk] := Runs.snd (M := M) (c := ⟨1, [2, 3, 4, 6, 8, 16, 20, 21, 22, 23, 28, 32], [], [(1, [0, 2, 3, 4, 8, 16, 20, 21, 22, 23, 28, 32])]⟩) tok ks mixed Try.func8 (p := []) (by kernel_rfl) (by rfl) (by rfl) <| by
 by_cases h0 : p = [47]
 ·subst h0
  simp only [splitP, if_true]
  (try simp -implicitDefEqProofs (disch := first | exact dd | fail) [Try.f8]); (repeat' ((with_reducible first | (refine Br.out ?_ ?_ <;> intro h <;> (try (have h0 := h; simp only [bH] at h))) | fail) <;> (try simp -implicitDefEqProofs (disch := first | exact dd | fail) [Try.f8])))
 cases p with
 | nil =>
  simp only [splitP, List.head?_nil]
  (try simp -implicitDefEqProofs (disch := first | exact dd | fail) [Try.f8]); (repeat' ((with_reducible first | (refine Br.out ?_ ?_ <;> intro h <;> (try (have h0 := h; simp only [bH] at h))) | fail) <;> (try simp -implicitDefEqProofs (disch := first | exact dd | fail) [Try.f8])))
 | cons b t =>
  rw [splitP_cons h0]
  have htl : t.length + 1 ≤ 1048576 := hp
  by_cases hb : b = 47
  ·rw [if_pos hb]
   subst hb
   have hc := impl_SplitAny t (by omega)
   have hml : ∀ x ∈ splitS t, x.length ≤ 1048576 := fun x hx => by have := cutS_mem hx; simp at this; omega
   have hsl : (splitS t).length ≤ 1048576 := by have := cutS_len (l := t) (cur := []); unfold splitS; omega
   generalize splitS t = L at *
   obtain ⟨Q, hQ⟩ : ∃ Q : List Str × Bool, Q = (if L.all nameOK = true ∧ L.length ≤ 8 then (L, true) else ([], false)) := ⟨_, rfl⟩
   rw [← hQ]
   (try simp -implicitDefEqProofs (disch := first | exact dd | fail) [Try.f8, h0]); (repeat' ((with_reducible first | (refine Br.out ?_ ?_ <;> intro h <;> (try (have h0 := h; simp only [bH] at h))) | refine AC_snd (hc) ?_ | fail) <;> (try simp -implicitDefEqProofs (disch := first | exact dd | fail) [Try.f8, h0])))
   refine AL_for 22 L.length (fun j => L.all nameOK = (L.drop j).all nameOK) rfl rfl (fun j n hlt he ih => ?_) (fun n he => ?_)
   ·rw [all_at hlt] at he
    have hn := impl_IsEntryName L[j] (hml _ (List.getElem_mem hlt))
    rw [nameOk_eq] at hn
    by_cases hx : nameOK L[j] = true
    ·rw [hx, Bool.true_and] at he
     have hj := ih he
     (try simp -implicitDefEqProofs (disch := first | exact dd | fail) [Try.f8, hlt, hx]); (repeat' ((with_reducible first | (refine Br.out ?_ ?_ <;> intro h <;> (try (have h0 := h; simp only [bH] at h))) | refine AC_snd (hn) ?_ | fail) <;> (try simp -implicitDefEqProofs (disch := first | exact dd | fail) [Try.f8, hlt, hx])))
     all_goals first | exact hj
    ·have hx' : nameOK L[j] = false := by simpa using hx
     rw [hx', Bool.false_and] at he
     rw [if_neg (by rw [he]; simp)] at hQ
     subst hQ
     (try simp -implicitDefEqProofs (disch := first | exact dd | fail) [Try.f8, hlt, hx']); (repeat' ((with_reducible first | (refine Br.out ?_ ?_ <;> intro h <;> (try (have h0 := h; simp only [bH] at h))) | refine AC_snd (hn) ?_ | fail) <;> (try simp -implicitDefEqProofs (disch := first | exact dd | fail) [Try.f8, hlt, hx'])))
   ·rw [List.drop_length] at he
    by_cases h8 : L.length ≤ 8
    ·rw [if_pos ⟨he, h8⟩] at hQ
     subst hQ
     (try simp -implicitDefEqProofs (disch := first | exact dd | fail) [Try.f8, h8]); (repeat' ((with_reducible first | (refine Br.out ?_ ?_ <;> intro h <;> (try (have h0 := h; simp only [bH] at h))) | fail) <;> (try simp -implicitDefEqProofs (disch := first | exact dd | fail) [Try.f8, h8])))
    ·rw [if_neg fun h => h8 h.2] at hQ
     subst hQ
     (try simp -implicitDefEqProofs (disch := first | exact dd | fail) [Try.f8, h8]); (repeat' ((with_reducible first | (refine Br.out ?_ ?_ <;> intro h <;> (try (have h0 := h; simp only [bH] at h))) | fail) <;> (try simp -implicitDefEqProofs (disch := first | exact dd | fail) [Try.f8, h8])))
  ·rw [if_neg hb]
   have hne := byte_ne hb
   (try simp -implicitDefEqProofs (disch := first | exact dd | fail) [Try.f8, h0, hb, hne]); (repeat' ((with_reducible first | (refine Br.out ?_ ?_ <;> intro h <;> (try (have h0 := h; simp only [bH] at h))) | fail) <;> (try simp -implicitDefEqProofs (disch := first | exact dd | fail) [Try.f8, h0, hb, hne])))
theorem spec_SplitPath (p : Str) (hp : p.length ≤ 1048576) : Snd Try.prog 7 [.str p] (.tup [.row 1 ((splitP p).1.map cs), .bool (splitP p).2]) [.unk] := Runs.snd (M := M) (c := ⟨1, [2, 3, 4, 6, 8, 15, 19, 20, 21, 22, 27, 31], [], [(1, [0, 2, 3, 4, 8, 15, 19, 20, 21, 22, 27, 31])]⟩) tok ks mixed Try.func7 (p := []) (by kernel_rfl) (by rfl) (by rfl) <| by
 by_cases h0 : p = [47]
 ·subst h0
  simp only [splitP, if_true]
  (try simp -implicitDefEqProofs (disch := first | exact dd | fail) [Try.f7]); (repeat' ((with_reducible first | (refine Br.out ?_ ?_ <;> intro h <;> (try (have h0 := h; simp only [bH] at h))) | fail) <;> (try simp -implicitDefEqProofs (disch := first | exact dd | fail) [Try.f7])))
 cases p with
 | nil =>
  simp only [splitP, List.head?_nil]
  (try simp -implicitDefEqProofs (disch := first | exact dd | fail) [Try.f7]); (repeat' ((with_reducible first | (refine Br.out ?_ ?_ <;> intro h <;> (try (have h0 := h; simp only [bH] at h))) | fail) <;> (try simp -implicitDefEqProofs (disch := first | exact dd | fail) [Try.f7])))
 | cons b t =>
  rw [splitP_cons h0]
  have htl : t.length + 1 ≤ 1048576 := hp
  by_cases hb : b = 47
  ·rw [if_pos hb]
   subst hb
   have hc := spec_SplitAny t (by omega)
   have hml : ∀ x ∈ splitS t, x.length ≤ 1048576 := fun x hx => by have := cutS_mem hx; simp at this; omega
   have hsl : (splitS t).length ≤ 1048576 := by have := cutS_len (l := t) (cur := []); unfold splitS; omega
   generalize splitS t = L at *
   obtain ⟨Q, hQ⟩ : ∃ Q : List Str × Bool, Q = (if L.all nameOK = true ∧ L.length ≤ 8 then (L, true) else ([], false)) := ⟨_, rfl⟩
   rw [← hQ]
   (try simp -implicitDefEqProofs (disch := first | exact dd | fail) [Try.f7, h0]); (repeat' ((with_reducible first | (refine Br.out ?_ ?_ <;> intro h <;> (try (have h0 := h; simp only [bH] at h))) | refine AC_snd (hc) ?_ | fail) <;> (try simp -implicitDefEqProofs (disch := first | exact dd | fail) [Try.f7, h0])))
   refine AL_for 21 L.length (fun j => L.all nameOK = (L.drop j).all nameOK) rfl rfl (fun j n hlt he ih => ?_) (fun n he => ?_)
   ·rw [all_at hlt] at he
    have hn := spec_IsEntryName L[j] (hml _ (List.getElem_mem hlt))
    rw [nameOk_eq] at hn
    by_cases hx : nameOK L[j] = true
    ·rw [hx, Bool.true_and] at he
     have hj := ih he
     (try simp -implicitDefEqProofs (disch := first | exact dd | fail) [Try.f7, hlt, hx]); (repeat' ((with_reducible first | (refine Br.out ?_ ?_ <;> intro h <;> (try (have h0 := h; simp only [bH] at h))) | refine AC_snd (hn) ?_ | fail) <;> (try simp -implicitDefEqProofs (disch := first | exact dd | fail) [Try.f7, hlt, hx])))
     all_goals first | exact hj
    ·have hx' : nameOK L[j] = false := by simpa using hx
     rw [hx', Bool.false_and] at he
     rw [if_neg (by rw [he]; simp)] at hQ
     subst hQ
     (try simp -implicitDefEqProofs (disch := first | exact dd | fail) [Try.f7, hlt, hx']); (repeat' ((with_reducible first | (refine Br.out ?_ ?_ <;> intro h <;> (try (have h0 := h; simp only [bH] at h))) | refine AC_snd (hn) ?_ | fail) <;> (try simp -implicitDefEqProofs (disch := first | exact dd | fail) [Try.f7, hlt, hx'])))
   ·rw [List.drop_length] at he
    by_cases h8 : L.length ≤ 8
    ·rw [if_pos ⟨he, h8⟩] at hQ
     subst hQ
     (try simp -implicitDefEqProofs (disch := first | exact dd | fail) [Try.f7, h8]); (repeat' ((with_reducible first | (refine Br.out ?_ ?_ <;> intro h <;> (try (have h0 := h; simp only [bH] at h))) | fail) <;> (try simp -implicitDefEqProofs (disch := first | exact dd | fail) [Try.f7, h8])))
    ·rw [if_neg fun h => h8 h.2] at hQ
     subst hQ
     (try simp -implicitDefEqProofs (disch := first | exact dd | fail) [Try.f7, h8]); (repeat' ((with_reducible first | (refine Br.out ?_ ?_ <;> intro h <;> (try (have h0 := h; simp only [bH] at h))) | fail) <;> (try simp -implicitDefEqProofs (disch := first | exact dd | fail) [Try.f7, h8])))
  ·rw [if_neg hb]
   have hne := byte_ne hb
   (try simp -implicitDefEqProofs (disch := first | exact dd | fail) [Try.f7, h0, hb, hne]); (repeat' ((with_reducible first | (refine Br.out ?_ ?_ <;> intro h <;> (try (have h0 := h; simp only [bH] at h))) | fail) <;> (try simp -implicitDefEqProofs (disch := first | exact dd | fail) [Try.f7, h0, hb, hne])))
set_option maxHeartbeats 4000000
set_option maxRecDepth 8000
theorem walkL_at {f : DFS} {c : DCred} {i : Int} {L : List Str} {j : Nat} (h : j < L.length) : walkL f c i (L.drop j) = if isDirI f i = false then (0, 5) else if mayI f c i 1 = false then (0, 2) else if (findE (entriesI f i) L[j]).2 = false then (0, 3) else walkL f c (findE (entriesI f i) L[j]).1 (L.drop (j + 1)) := by
 rw [List.drop_eq_getElem_cons h, walkL]
theorem hasI_kind {f : DFS} {k : Nat} (h : k < 20) : hasI f k = !decide ((inodeAt f k).kind = 0) := by
 unfold hasI
 by_cases hk : (inodeAt f k).kind = 0
 ·simp [hk]
 ·simp [hk]; omega
set_option maxHeartbeats 4000000
set_option maxRecDepth 8000
end Go.Proofs.Ytiafmpcmmohdkaa
