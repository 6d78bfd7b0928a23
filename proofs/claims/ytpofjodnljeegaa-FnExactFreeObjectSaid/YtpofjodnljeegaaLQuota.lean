import Derived.Test.YtpofjodnljeegaaDat
import Derived.Test.YtpofjodnljeegaaBase
namespace Go.Proofs.Ytpofjodnljeegaa
open Go.Fw
set_option linter.unusedVariables false
set_option linter.unusedSimpArgs false
set_option maxHeartbeats 8000000 in
set_option maxRecDepth 4000 in
theorem laws_toQuota (x : DQuota) :
  Snd Try.prog 62 [.agg [.int .i64 x.inodes, .int .i64 x.blocks]] (.agg [.int .i64 x.inodes, .int .i64 x.blocks]) [.unk] := Runs.snd (M := M) (c := ⟨1, [1, 2, 3], [], []⟩) tok ks mixed Try.func62 (p := []) (by kernel_rfl) (by rfl) (by rfl) <| by
 simp -implicitDefEqProofs (disch := first | exact dd | fail) [Try.f62, ABr, AGd]
set_option maxHeartbeats 8000000 in
set_option maxRecDepth 4000 in
theorem laws_eqQuota (x y : DQuota) :
  Snd Try.prog 67 [.agg [.int .i64 x.inodes, .int .i64 x.blocks], .agg [.int .i64 y.inodes, .int .i64 y.blocks]] (.bool (decide (x = y))) [.unk, .unk] := Runs.snd (M := M) (c := ⟨2, [2, 3, 4, 9, 14], [], []⟩) tok ks mixed Try.func67 (p := []) (by kernel_rfl) (by rfl) (by rfl) <| by
 simp -implicitDefEqProofs (disch := first | exact dd | fail) [Try.f67, ABr, AGd]
 refine ⟨fun h => by (rintro rfl; first | exact h rfl | simp at h), fun _ => ?_⟩
 refine ⟨fun h => by (rintro rfl; first | exact h rfl | simp at h), fun _ => ?_⟩
 cases x
 cases y
 simp_all
set_option maxHeartbeats 8000000 in
set_option maxRecDepth 4000 in
theorem laws_szQuotaS (nl : Option Bool) (l : List DQuota) (n : Int) (h0 : 0 ≤ n) (h1 : n ≤ 1048576) (hl : l.length ≤ maxLen) :
  Snd Try.prog 17 [.frz 2 nl (l.map cQuota), .int .i64 n] (.int .i64 (szR l.length n)) [.unk, .unk] := Runs.snd (M := M) (c := ⟨2, [4, 10], [], []⟩) tok ks mixed Try.func17 (p := []) (by kernel_rfl) (by rfl) (by rfl) <| by
 unfold maxLen at *
 simp -implicitDefEqProofs (disch := first | exact dd | fail) [Try.f17, ABr, AGd]
 exact ⟨fun h => by rw [szR, if_pos (by omega)], fun h => by rw [szR, if_neg (by omega)]⟩
set_option maxHeartbeats 8000000 in
set_option maxRecDepth 4000 in
theorem laws_toQuotaS (nl : Option Bool) (xs : List DQuota) (hl : xs.length ≤ 1048576) :
  Snd Try.prog 19 [.frz 2 nl (xs.map cQuota)] (.row 2 (xs.map cQuota)) [.unk] := Runs.snd (M := M) (c := ⟨1, [2, 3, 4, 11], [], []⟩) tok ks mixed Try.func19 (p := []) (by kernel_rfl) (by rfl) (by rfl) <| by
 have hl' : (xs.length : Int) ≤ 1073741824 := by omega
 simp -implicitDefEqProofs (disch := first | exact dd | fail) [Try.f19, LIM, hl', ABr, AGd]
 rw [fillTo_zero (c := cQuota)]
 refine AL_ind (fun i => xs.length - i) (fun i => ⟨[(0, .frz 2 nl (xs.map cQuota)), (2, .frz 0 (some true) []), (3, .ref 384 none 2 0 xs.length (some false)), (4, .int .i64 i)], [(384, .row 2 (fillTo cQuota [.int .i64 0, .int .i64 0] xs i) [])], false⟩)
  (fun i => i ≤ xs.length) 0 rfl (by omega) ?_
 intro i n hi ih
 rcases Nat.lt_or_ge i xs.length with hlt | hge
 ·have hs := fillTo_set (c := cQuota) (z := [.int .i64 0, .int .i64 0]) hlt
  have hg := fillTo_get (c := cQuota) (z := [.int .i64 0, .int .i64 0]) hlt
  simp only [cQuota] at hs hg
  simp -implicitDefEqProofs (disch := first | exact dd | fail) [Try.f19, hlt, hs, hg, fillTo_len, cQuota, ABr, AGd]
  refine AC_snd (laws_toQuota  _) ?_
  simp -implicitDefEqProofs (disch := first | exact dd | fail) [Try.f19, hlt, hs, hg, fillTo_len, cQuota, ABr, AGd]
  exact ih (i + 1) (by omega) (by omega)
 ·obtain rfl : i = xs.length := by omega
  simp -implicitDefEqProofs (disch := first | exact dd | fail) [Try.f19, fillTo_len, fillTo_end, ABr, AGd]
set_option maxHeartbeats 8000000 in
set_option maxRecDepth 4000 in
theorem laws_eqQuotaS (n1 n2 : Option Bool) (xs ys : List DQuota) (hl : xs.length ≤ 1048576) :
  Snd Try.prog 21 [.frz 2 n1 (xs.map cQuota), .frz 2 n2 (ys.map cQuota)] (.bool (decide (xs = ys))) [.unk, .unk] := Runs.snd (M := M) (c := ⟨2, [4, 5, 10, 14, 26], [], []⟩) tok ks mixed Try.func21 (p := []) (by kernel_rfl) (by rfl) (by rfl) <| by
 simp -implicitDefEqProofs (disch := first | exact dd | fail) [Try.f21, ABr, AGd]
 refine ⟨fun h => by rintro rfl; exact h rfl, fun h => ?_⟩
 refine AL_ind (fun i => xs.length - i) (fun i => ⟨[(0, .frz 2 n1 (xs.map cQuota)), (1, .frz 2 n2 (ys.map cQuota)), (4, .bool false), (5, .int .i64 i)], [], false⟩)
  (fun i => i ≤ xs.length ∧ xs.take i = ys.take i) 0 rfl ⟨by omega, rfl⟩ ?_
 rintro i n ⟨hi, he⟩ ih
 rcases Nat.lt_or_ge i xs.length with hlt | hge
 ·have hlt' : i < ys.length := by omega
  simp -implicitDefEqProofs (disch := first | exact dd | fail) [Try.f21, hlt, hlt', cQuota, ABr, AGd]
  refine AC_snd (laws_eqQuota   _ _) ?_
  simp -implicitDefEqProofs (disch := first | exact dd | fail) [Try.f21, hlt, hlt', cQuota, ABr, AGd]
  refine ⟨fun h1 => by rintro rfl; exact h1 rfl, fun h1 => ?_⟩
  exact ih (i + 1) ⟨by omega, take_step hlt hlt' he h1⟩ (by omega)
 ·obtain rfl : i = xs.length := by omega
  simp -implicitDefEqProofs (disch := first | exact dd | fail) [Try.f21, ABr, AGd]
  exact take_all (by omega) he
def mkQuota (x : DQuota) (k : Int) : DQuota := { inodes := k, blocks := (k + 1) }
def nmQuota (x : DQuota) : Nat := 2
abbrev mLQuota (xs : List DQuota) (k : Int) : List DQuota := mkL mkQuota nmQuota xs k
abbrev nLQuota (xs : List DQuota) : Nat := wList nmQuota xs
set_option maxHeartbeats 8000000 in
set_option maxRecDepth 4000 in
theorem laws_markQuotaS (xs : List DQuota) (k : Int) (hl : xs.length ≤ 1048576) (hk : 0 ≤ k) (hn : k + nLQuota xs ≤ 16777216) :
  Snd Try.prog 22 [.row 2 (xs.map cQuota), .int .i64 k] (.int .i64 (k + nLQuota xs)) [.row 2 ((mLQuota xs k).map cQuota), .unk] := Runs.snd (M := M) (c := ⟨2, [4, 5, 9], [], []⟩) tok ks mixed Try.func22 (p := [0]) (by kernel_rfl) (by rfl) (by rfl) <| by
 have hml : (mLQuota xs k).length = xs.length := mkL_len
 simp -implicitDefEqProofs (disch := first | exact dd | fail) [Try.f22, ABr, AGd]
 rw [patch_zero (c := cQuota) (ms := mLQuota xs k) (xs := xs)]
 refine AL_ind (ι := Nat × Int) (fun x => xs.length - x.1) (fun x => ⟨[(0, .ref 0 none 2 0 xs.length none), (1, .int .i64 x.2), (4, .int .i64 0), (5, .int .i64 x.1)], [(0, .row 2 (patch cQuota (mLQuota xs k) xs x.1) [])], false⟩)
  (fun x => x.1 ≤ xs.length ∧ x.2 = k + wList nmQuota (xs.take x.1)) (0, k) rfl ⟨by simp, by simp [wList]⟩ ?_
 rintro ⟨i, a⟩ n ⟨hi, ha⟩ ih
 simp only at hi ha ⊢
 rcases Nat.lt_or_ge i xs.length with hlt | hge
 ·have hw := wList_take (n := nmQuota) hlt
  have hle := wList_take_le (n := nmQuota) (xs := xs) (i := i + 1)
  have hpl := patch_len (c := cQuota) hml hi
  have hg := patch_get (c := cQuota) hml hlt
  have hpi := Nat.lt_of_lt_of_eq hlt hpl.symm
  rw [List.getElem?_eq_getElem hpi] at hg
  have hg := Option.some.inj hg
  have hs := patch_put (c := cQuota) hml hlt (mkL_get (f := mkQuota) hlt)
  rw [← ha] at hs
  simp only [cQuota, mkQuota, nmQuota] at hg hs hw
  simp only [nLQuota] at hn
  simp -implicitDefEqProofs (disch := first | exact dd | fail) [Try.f22, hlt, hg, hs, patch_len hml, List.set_set, cQuota, ABr, AGd]
  refine ih (i + 1, _) ⟨by simp only; omega, ?_⟩ (by simp only; omega)
  simp only
  omega
 ·obtain rfl : i = xs.length := by omega
  simp -implicitDefEqProofs (disch := first | exact dd | fail) [Try.f22, patch_len hml, patch_end hml, hml, ABr, AGd]
  rw [ha, List.take_length]
set_option maxHeartbeats 8000000 in
set_option maxRecDepth 4000 in
theorem laws_heldQuotaS (nl : Option Bool) (xs : List DQuota) (k : Int) (hl : xs.length ≤ 1048576) (hk : 0 ≤ k) (hn : k + nLQuota xs ≤ 16777216) :
  Snd Try.prog 57 [.frz 2 nl ((mLQuota xs k).map cQuota), .int .i64 k] (.int .i64 (k + nLQuota xs)) [.unk, .unk] := Runs.snd (M := M) (c := ⟨2, [4, 5, 9, 18, 27], [], []⟩) tok ks mixed Try.func57 (p := []) (by kernel_rfl) (by rfl) (by rfl) <| by
 have hml : (mLQuota xs k).length = xs.length := mkL_len
 simp -implicitDefEqProofs (disch := first | exact dd | fail) [Try.f57, hml, ABr, AGd]
 refine AL_ind (ι := Nat × Int) (fun x => xs.length - x.1) (fun x => ⟨[(0, .frz 2 nl ((mLQuota xs k).map cQuota)), (1, .int .i64 x.2), (4, .int .i64 0), (5, .int .i64 x.1)], [], false⟩)
  (fun x => x.1 ≤ xs.length ∧ x.2 = k + wList nmQuota (xs.take x.1)) (0, k) rfl ⟨by simp, by simp [wList]⟩ ?_
 rintro ⟨i, a⟩ n ⟨hi, ha⟩ ih
 simp only at hi ha ⊢
 rcases Nat.lt_or_ge i xs.length with hlt | hge
 ·have hw := wList_take (n := nmQuota) hlt
  have hle := wList_take_le (n := nmQuota) (xs := xs) (i := i + 1)
  have hg := mkL_get (f := mkQuota) (n := nmQuota) (k := k) hlt
  rw [← ha] at hg
  have hlt' : i < (mLQuota xs k).length := by omega
  rw [List.getElem?_eq_getElem hlt'] at hg
  have hg := Option.some.inj hg
  simp only [mkQuota, nmQuota] at hg hw
  simp only [nLQuota] at hn
  repeat' (first | (with_reducible first | (refine Br.out ?_ ?_ <;> intro h <;> (try (have h0 := h; simp only [bH] at h)))) | simp -implicitDefEqProofs (disch := first | exact dd | fail) [Try.f57, hlt, hlt', hg, hml, cQuota])
  all_goals try omega
  refine ih (i + 1, _) ⟨by simp only; omega, ?_⟩ (by simp only; omega)
  simp only
  omega
 ·obtain rfl : i = xs.length := by omega
  simp -implicitDefEqProofs (disch := first | exact dd | fail) [Try.f57, hml, ABr, AGd]
  rw [ha, List.take_length]
end Go.Proofs.Ytpofjodnljeegaa
