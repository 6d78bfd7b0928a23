import Derived.Test.YtpofjodnljeegaaGreatP17a
import Derived.Test.YtpofjodnljeegaaGreatM13
namespace Go.Proofs.YtpofjodnljeegaaGreat
open Go.Fw
set_option linter.unusedVariables false
set_option linter.unusedSimpArgs false
theorem containsAny_iff : ∀ l : Str, 0 ≤ Lib.indexAny l [0, 47] ↔ l.any (fun b => decide (b = 0) || decide (b = 47)) = true
 | [] => by simp [Lib.indexAny]
 | b :: l => by
  have hg := Lib.indexAny_ge [0, 47] l
  have ih := containsAny_iff l
  have hc : (([0, 47] : List UInt8).contains b = true) ↔ (decide (b = 0) || decide (b = 47)) = true := by simp
  rw [Lib.indexAny, List.any_cons, Bool.or_eq_true, ← ih, ← hc]
  by_cases h : ([0, 47] : List UInt8).contains b = true
  ·rw [if_pos h]
   exact ⟨fun _ => .inl h, fun _ => by decide⟩
  ·rw [if_neg h]
   by_cases h1 : Lib.indexAny l [0, 47] = -1
   ·rw [if_pos (by rw [h1]; rfl)]
    exact ⟨fun h => by omega, fun h2 => h2.elim (fun h3 => absurd h3 h) (fun h3 => by omega)⟩
   ·rw [if_neg (by rw [beq_iff_eq]; exact h1)]
    exact ⟨fun _ => .inr (by omega), fun _ => by omega⟩
theorem containsAny_any (l : Str) : Lib.containsAny l [0, 47] = l.any (fun b => decide (b = 0) || decide (b = 47)) := by
 rw [Bool.eq_iff_iff, ← containsAny_iff, Lib.containsAny, decide_eq_true_eq]
set_option maxHeartbeats 4000000 in
set_option maxRecDepth 8000 in
theorem spec_IsEntryName (l : Str) (hl : l.length ≤ 1048576) : Snd Tryz.prog 54 [.str l] (.bool (nameOk l)) [.unk] := Runs.snd (M := M) (c := ⟨1, [2, 3, 15, 19, 31], [], []⟩) tok ks mixed Tryz.func54 (p := []) (by kernel_rfl) (by rfl) (by rfl) <| by
 (try simp -implicitDefEqProofs (disch := first | exact dd | fail) [Tryz.f54]); (repeat' ((with_reducible first | (refine Br.out ?_ ?_ <;> intro h <;> (try (have h0 := h; simp only [bH] at h))) | refine AC_snd (spec_l01In _ _ _) ?_ | fail) <;> (try simp -implicitDefEqProofs (disch := first | exact dd | fail) [Tryz.f54])))
 ·simp [nameOk]; grind
 ·simp [nameOk]; grind
 ·simp [nameOk]; grind
 have hn : nameOk l = !l.any (fun b => decide (b = 0) || decide (b = 47)) := by simp only [nameOk, containsAny_any]; grind
 refine AL_ind (fun i => l.length - i) (fun i => ⟨[(0, .str l), (2, .bool false), (3, .int .i64 i)], [], false⟩)
  (fun i => i ≤ l.length ∧ (l.drop i).any (fun b => decide (b = 0) || decide (b = 47)) = l.any (fun b => decide (b = 0) || decide (b = 47))) 0 rfl ⟨by omega, rfl⟩ ?_
 rintro i n ⟨hi, he⟩ ih
 rcases Nat.lt_or_ge i l.length with hlt | hge
 ·rw [List.drop_eq_getElem_cons hlt, List.any_cons] at he
  (try simp -implicitDefEqProofs (disch := first | exact dd | fail) [Tryz.f54, hlt]); (repeat' ((with_reducible first | (refine Br.out ?_ ?_ <;> intro h <;> (try (have h0 := h; simp only [bH] at h))) | fail) <;> (try simp -implicitDefEqProofs (disch := first | exact dd | fail) [Tryz.f54, hlt])))
  ·rename_i h
   have hx : l[i] = 0 := UInt8.toNat_inj.1 h
   simp [hn, ← he, hx]
  ·rename_i h
   have hx : l[i] = 47 := UInt8.toNat_inj.1 (by simpa using (show l[i].toNat = 47 by omega))
   simp [hn, ← he, hx]
  ·rename_i h
   have hx : ¬ l[i] = 0 := fun e => (by assumption : ¬ l[i].toNat = 0) (by rw [e]; rfl)
   have hy : ¬ l[i] = 47 := fun e => h (by rw [e]; rfl)
   exact ih (i + 1) ⟨by omega, by simpa [hx, hy] using he⟩ (by omega)
 ·obtain rfl : i = l.length := by omega
  simp only [List.drop_length, List.any_nil] at he
  (try simp -implicitDefEqProofs (disch := first | exact dd | fail) [Tryz.f54]); (repeat' ((with_reducible first | (refine Br.out ?_ ?_ <;> intro h <;> (try (have h0 := h; simp only [bH] at h))) | fail) <;> (try simp -implicitDefEqProofs (disch := first | exact dd | fail) [Tryz.f54])))
  simp [hn, ← he]
theorem nameOk_eq (l : Str) : nameOk l = nameOK l := by
 have h : l.all isNm = !l.any (fun b => decide (b = 0) || decide (b = 47)) := by
  induction l with
  | nil => rfl
  | cons b l ih => simp only [List.all_cons, List.any_cons, ih, isNm, Bool.not_or]
 simp only [nameOk, nameOK, containsAny_any, h]
end Go.Proofs.YtpofjodnljeegaaGreat
