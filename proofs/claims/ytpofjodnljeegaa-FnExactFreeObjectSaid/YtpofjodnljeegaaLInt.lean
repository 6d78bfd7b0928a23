import Derived.Test.YtpofjodnljeegaaDat
import Derived.Test.YtpofjodnljeegaaBase
namespace Go.Proofs.Ytpofjodnljeegaa
open Go.Fw
set_option linter.unusedVariables false
set_option linter.unusedSimpArgs false
set_option maxHeartbeats 8000000 in
set_option maxRecDepth 4000 in
theorem laws_szIntS (nl : Option Bool) (l : List Int) (n : Int) (h0 : 0 ≤ n) (h1 : n ≤ 1048576) (hl : l.length ≤ maxLen) :
  Snd Try.prog 126 [.frz 1 nl (l.map ci), .int .i64 n] (.int .i64 (szR l.length n)) [.unk, .unk] := Runs.snd (M := M) (c := ⟨2, [4, 10], [], []⟩) tok ks mixed Try.func126 (p := []) (by kernel_rfl) (by rfl) (by rfl) <| by
 unfold maxLen at *
 simp -implicitDefEqProofs (disch := first | exact dd | fail) [Try.f126, ABr, AGd]
 exact ⟨fun h => by rw [szR, if_pos (by omega)], fun h => by rw [szR, if_neg (by omega)]⟩
set_option maxHeartbeats 8000000 in
set_option maxRecDepth 4000 in
theorem laws_toIntS (nl : Option Bool) (xs : List Int) (hl : xs.length ≤ 1048576) :
  Snd Try.prog 26 [.frz 1 nl (xs.map ci)] (.row 1 (xs.map ci)) [.unk] := Runs.snd (M := M) (c := ⟨1, [2, 3, 4, 11], [], []⟩) tok ks mixed Try.func26 (p := []) (by kernel_rfl) (by rfl) (by rfl) <| by
 have hl' : (xs.length : Int) ≤ 1073741824 := by omega
 simp -implicitDefEqProofs (disch := first | exact dd | fail) [Try.f26, LIM, hl', ABr, AGd]
 rw [fillTo_zero (c := ci)]
 refine AL_ind (fun i => xs.length - i) (fun i => ⟨[(0, .frz 1 nl (xs.map ci)), (2, .frz 0 (some true) []), (3, .ref 384 none 1 0 xs.length (some false)), (4, .int .i64 i)], [(384, .row 1 (fillTo ci [.int .i64 0] xs i) [])], false⟩)
  (fun i => i ≤ xs.length) 0 rfl (by omega) ?_
 intro i n hi ih
 rcases Nat.lt_or_ge i xs.length with hlt | hge
 ·have hs := fillTo_set (c := ci) (z := [.int .i64 0]) hlt
  have hg := fillTo_get (c := ci) (z := [.int .i64 0]) hlt
  simp only [ci] at hs hg
  simp -implicitDefEqProofs (disch := first | exact dd | fail) [Try.f26, hlt, hs, hg, fillTo_len, ABr, AGd]
  exact ih (i + 1) (by omega) (by omega)
 ·obtain rfl : i = xs.length := by omega
  simp -implicitDefEqProofs (disch := first | exact dd | fail) [Try.f26, fillTo_len, fillTo_end, ABr, AGd]
set_option maxHeartbeats 8000000 in
set_option maxRecDepth 4000 in
theorem laws_eqIntS (n1 n2 : Option Bool) (xs ys : List Int) (hl : xs.length ≤ 1048576) :
  Snd Try.prog 28 [.frz 1 n1 (xs.map ci), .frz 1 n2 (ys.map ci)] (.bool (decide (xs = ys))) [.unk, .unk] := Runs.snd (M := M) (c := ⟨2, [4, 5, 10, 14, 25], [], []⟩) tok ks mixed Try.func28 (p := []) (by kernel_rfl) (by rfl) (by rfl) <| by
 simp -implicitDefEqProofs (disch := first | exact dd | fail) [Try.f28, ABr, AGd]
 refine ⟨fun h => by rintro rfl; exact h rfl, fun h => ?_⟩
 refine AL_ind (fun i => xs.length - i) (fun i => ⟨[(0, .frz 1 n1 (xs.map ci)), (1, .frz 1 n2 (ys.map ci)), (4, .bool false), (5, .int .i64 i)], [], false⟩)
  (fun i => i ≤ xs.length ∧ xs.take i = ys.take i) 0 rfl ⟨by omega, rfl⟩ ?_
 rintro i n ⟨hi, he⟩ ih
 rcases Nat.lt_or_ge i xs.length with hlt | hge
 ·have hlt' : i < ys.length := by omega
  simp -implicitDefEqProofs (disch := first | exact dd | fail) [Try.f28, hlt, hlt', ABr, AGd]
  refine ⟨fun h1 => by rintro rfl; exact h1 rfl, fun h1 => ?_⟩
  exact ih (i + 1) ⟨by omega, take_step hlt hlt' he h1⟩ (by omega)
 ·obtain rfl : i = xs.length := by omega
  simp -implicitDefEqProofs (disch := first | exact dd | fail) [Try.f28, ABr, AGd]
  exact take_all (by omega) he
abbrev mLInt (xs : List Int) (k : Int) : List Int := mkL (fun _ k => k) (fun _ => 1) xs k
abbrev nLInt (xs : List Int) : Nat := wList (fun _ => 1) xs
set_option maxHeartbeats 8000000 in
set_option maxRecDepth 4000 in
theorem laws_markIntS (xs : List Int) (k : Int) (hl : xs.length ≤ 1048576) (hk : 0 ≤ k) (hn : k + nLInt xs ≤ 16777216) :
  Snd Try.prog 29 [.row 1 (xs.map ci), .int .i64 k] (.int .i64 (k + nLInt xs)) [.row 1 ((mLInt xs k).map ci), .unk] := Runs.snd (M := M) (c := ⟨2, [4, 5, 9], [], []⟩) tok ks mixed Try.func29 (p := [0]) (by kernel_rfl) (by rfl) (by rfl) <| by
 have hml : (mLInt xs k).length = xs.length := mkL_len
 simp -implicitDefEqProofs (disch := first | exact dd | fail) [Try.f29, ABr, AGd]
 rw [patch_zero (c := ci) (ms := mLInt xs k) (xs := xs)]
 refine AL_ind (ι := Nat × Int) (fun x => xs.length - x.1) (fun x => ⟨[(0, .ref 0 none 1 0 xs.length none), (1, .int .i64 x.2), (4, .int .i64 0), (5, .int .i64 x.1)], [(0, .row 1 (patch ci (mLInt xs k) xs x.1) [])], false⟩)
  (fun x => x.1 ≤ xs.length ∧ x.2 = k + wList (fun _ => 1) (xs.take x.1)) (0, k) rfl ⟨by simp, by simp [wList]⟩ ?_
 rintro ⟨i, a⟩ n ⟨hi, ha⟩ ih
 simp only at hi ha ⊢
 rcases Nat.lt_or_ge i xs.length with hlt | hge
 ·have hw := wList_take (n := (fun _ => 1)) hlt
  have hle := wList_take_le (n := (fun _ => 1)) (xs := xs) (i := i + 1)
  have hpl := patch_len (c := ci) hml hi
  have hg := patch_get (c := ci) hml hlt
  have hpi := Nat.lt_of_lt_of_eq hlt hpl.symm
  rw [List.getElem?_eq_getElem hpi] at hg
  have hg := Option.some.inj hg
  have hs := patch_put (c := ci) hml hlt (mkL_get (f := (fun _ k => k)) hlt)
  rw [← ha] at hs
  simp only [ci] at hg hs hw
  simp only [nLInt] at hn
  simp -implicitDefEqProofs (disch := first | exact dd | fail) [Try.f29, hlt, hg, hs, patch_len hml, List.set_set, ABr, AGd]
  refine ih (i + 1, _) ⟨by simp only; omega, ?_⟩ (by simp only; omega)
  simp only
  omega
 ·obtain rfl : i = xs.length := by omega
  simp -implicitDefEqProofs (disch := first | exact dd | fail) [Try.f29, patch_len hml, patch_end hml, hml, ABr, AGd]
  rw [ha, List.take_length]
set_option maxHeartbeats 8000000 in
set_option maxRecDepth 4000 in
theorem laws_heldIntS (nl : Option Bool) (xs : List Int) (k : Int) (hl : xs.length ≤ 1048576) (hk : 0 ≤ k) (hn : k + nLInt xs ≤ 16777216) :
  Snd Try.prog 38 [.frz 1 nl ((mLInt xs k).map ci), .int .i64 k] (.int .i64 (k + nLInt xs)) [.unk, .unk] := Runs.snd (M := M) (c := ⟨2, [4, 5, 9, 17], [], []⟩) tok ks mixed Try.func38 (p := []) (by kernel_rfl) (by rfl) (by rfl) <| by
 have hml : (mLInt xs k).length = xs.length := mkL_len
 simp -implicitDefEqProofs (disch := first | exact dd | fail) [Try.f38, hml, ABr, AGd]
 refine AL_ind (ι := Nat × Int) (fun x => xs.length - x.1) (fun x => ⟨[(0, .frz 1 nl ((mLInt xs k).map ci)), (1, .int .i64 x.2), (4, .int .i64 0), (5, .int .i64 x.1)], [], false⟩)
  (fun x => x.1 ≤ xs.length ∧ x.2 = k + wList (fun _ => 1) (xs.take x.1)) (0, k) rfl ⟨by simp, by simp [wList]⟩ ?_
 rintro ⟨i, a⟩ n ⟨hi, ha⟩ ih
 simp only at hi ha ⊢
 rcases Nat.lt_or_ge i xs.length with hlt | hge
 ·have hw := wList_take (n := (fun _ => 1)) hlt
  have hle := wList_take_le (n := (fun _ => 1)) (xs := xs) (i := i + 1)
  have hg := mkL_get (f := (fun _ k => k)) (n := (fun _ => 1)) (k := k) hlt
  rw [← ha] at hg
  have hlt' : i < (mLInt xs k).length := by omega
  rw [List.getElem?_eq_getElem hlt'] at hg
  have hg := Option.some.inj hg
  simp only [nLInt] at hn
  repeat' (first | (with_reducible first | (refine Br.out ?_ ?_ <;> intro h <;> (try (have h0 := h; simp only [bH] at h)))) | simp -implicitDefEqProofs (disch := first | exact dd | fail) [Try.f38, hlt, hlt', hg, hml])
  all_goals try omega
  refine ih (i + 1, _) ⟨by simp only; omega, ?_⟩ (by simp only; omega)
  simp only
  omega
 ·obtain rfl : i = xs.length := by omega
  simp -implicitDefEqProofs (disch := first | exact dd | fail) [Try.f38, hml, ABr, AGd]
  rw [ha, List.take_length]
end Go.Proofs.Ytpofjodnljeegaa
