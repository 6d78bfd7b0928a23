import Derived.Test.YtpofjodnljeegaaDat
import Derived.Test.YtpofjodnljeegaaBase
namespace Go.Proofs.Ytpofjodnljeegaa
open Go.Fw
set_option linter.unusedVariables false
set_option linter.unusedSimpArgs false
set_option maxHeartbeats 8000000 in
set_option maxRecDepth 4000 in
theorem laws_toOpen (x : DOpen) :
  Snd Try.prog 160 [.agg [.int .i64 x.inode, .int .i64 x.pos, .int .i64 x.flags]] (.agg [.int .i64 x.inode, .int .i64 x.pos, .int .i64 x.flags]) [.unk] := Runs.snd (M := M) (c := ⟨1, [1, 2, 3], [], []⟩) tok ks mixed Try.func160 (p := []) (by kernel_rfl) (by rfl) (by rfl) <| by
 simp -implicitDefEqProofs (disch := first | exact dd | fail) [Try.f160, ABr, AGd]
set_option maxHeartbeats 8000000 in
set_option maxRecDepth 4000 in
theorem laws_eqOpen (x y : DOpen) :
  Snd Try.prog 161 [.agg [.int .i64 x.inode, .int .i64 x.pos, .int .i64 x.flags], .agg [.int .i64 y.inode, .int .i64 y.pos, .int .i64 y.flags]] (.bool (decide (x = y))) [.unk, .unk] := Runs.snd (M := M) (c := ⟨2, [2, 3, 4, 9, 14, 19], [], []⟩) tok ks mixed Try.func161 (p := []) (by kernel_rfl) (by rfl) (by rfl) <| by
 simp -implicitDefEqProofs (disch := first | exact dd | fail) [Try.f161, ABr, AGd]
 refine ⟨fun h => by (rintro rfl; first | exact h rfl | simp at h), fun _ => ?_⟩
 refine ⟨fun h => by (rintro rfl; first | exact h rfl | simp at h), fun _ => ?_⟩
 refine ⟨fun h => by (rintro rfl; first | exact h rfl | simp at h), fun _ => ?_⟩
 cases x
 cases y
 simp_all
set_option maxHeartbeats 8000000 in
set_option maxRecDepth 4000 in
theorem laws_szOpenS (nl : Option Bool) (l : List DOpen) (n : Int) (h0 : 0 ≤ n) (h1 : n ≤ 1048576) (hl : l.length ≤ maxLen) :
  Snd Try.prog 146 [.frz 3 nl (l.map cOpen), .int .i64 n] (.int .i64 (szR l.length n)) [.unk, .unk] := Runs.snd (M := M) (c := ⟨2, [4, 10], [], []⟩) tok ks mixed Try.func146 (p := []) (by kernel_rfl) (by rfl) (by rfl) <| by
 unfold maxLen at *
 simp -implicitDefEqProofs (disch := first | exact dd | fail) [Try.f146, ABr, AGd]
 exact ⟨fun h => by rw [szR, if_pos (by omega)], fun h => by rw [szR, if_neg (by omega)]⟩
set_option maxHeartbeats 8000000 in
set_option maxRecDepth 4000 in
theorem laws_toOpenS (nl : Option Bool) (xs : List DOpen) (hl : xs.length ≤ 1048576) :
  Snd Try.prog 148 [.frz 3 nl (xs.map cOpen)] (.row 3 (xs.map cOpen)) [.unk] := Runs.snd (M := M) (c := ⟨1, [2, 3, 4, 11], [], []⟩) tok ks mixed Try.func148 (p := []) (by kernel_rfl) (by rfl) (by rfl) <| by
 have hl' : (xs.length : Int) ≤ 1073741824 := by omega
 simp -implicitDefEqProofs (disch := first | exact dd | fail) [Try.f148, LIM, hl', ABr, AGd]
 rw [fillTo_zero (c := cOpen)]
 refine AL_ind (fun i => xs.length - i) (fun i => ⟨[(0, .frz 3 nl (xs.map cOpen)), (2, .frz 0 (some true) []), (3, .ref 384 none 3 0 xs.length (some false)), (4, .int .i64 i)], [(384, .row 3 (fillTo cOpen [.int .i64 0, .int .i64 0, .int .i64 0] xs i) [])], false⟩)
  (fun i => i ≤ xs.length) 0 rfl (by omega) ?_
 intro i n hi ih
 rcases Nat.lt_or_ge i xs.length with hlt | hge
 ·have hs := fillTo_set (c := cOpen) (z := [.int .i64 0, .int .i64 0, .int .i64 0]) hlt
  have hg := fillTo_get (c := cOpen) (z := [.int .i64 0, .int .i64 0, .int .i64 0]) hlt
  simp only [cOpen] at hs hg
  simp -implicitDefEqProofs (disch := first | exact dd | fail) [Try.f148, hlt, hs, hg, fillTo_len, cOpen, ABr, AGd]
  refine AC_snd (laws_toOpen  _) ?_
  simp -implicitDefEqProofs (disch := first | exact dd | fail) [Try.f148, hlt, hs, hg, fillTo_len, cOpen, ABr, AGd]
  exact ih (i + 1) (by omega) (by omega)
 ·obtain rfl : i = xs.length := by omega
  simp -implicitDefEqProofs (disch := first | exact dd | fail) [Try.f148, fillTo_len, fillTo_end, ABr, AGd]
set_option maxHeartbeats 8000000 in
set_option maxRecDepth 4000 in
theorem laws_eqOpenS (n1 n2 : Option Bool) (xs ys : List DOpen) (hl : xs.length ≤ 1048576) :
  Snd Try.prog 150 [.frz 3 n1 (xs.map cOpen), .frz 3 n2 (ys.map cOpen)] (.bool (decide (xs = ys))) [.unk, .unk] := Runs.snd (M := M) (c := ⟨2, [4, 5, 10, 14, 26], [], []⟩) tok ks mixed Try.func150 (p := []) (by kernel_rfl) (by rfl) (by rfl) <| by
 simp -implicitDefEqProofs (disch := first | exact dd | fail) [Try.f150, ABr, AGd]
 refine ⟨fun h => by rintro rfl; exact h rfl, fun h => ?_⟩
 refine AL_ind (fun i => xs.length - i) (fun i => ⟨[(0, .frz 3 n1 (xs.map cOpen)), (1, .frz 3 n2 (ys.map cOpen)), (4, .bool false), (5, .int .i64 i)], [], false⟩)
  (fun i => i ≤ xs.length ∧ xs.take i = ys.take i) 0 rfl ⟨by omega, rfl⟩ ?_
 rintro i n ⟨hi, he⟩ ih
 rcases Nat.lt_or_ge i xs.length with hlt | hge
 ·have hlt' : i < ys.length := by omega
  simp -implicitDefEqProofs (disch := first | exact dd | fail) [Try.f150, hlt, hlt', cOpen, ABr, AGd]
  refine AC_snd (laws_eqOpen   _ _) ?_
  simp -implicitDefEqProofs (disch := first | exact dd | fail) [Try.f150, hlt, hlt', cOpen, ABr, AGd]
  refine ⟨fun h1 => by rintro rfl; exact h1 rfl, fun h1 => ?_⟩
  exact ih (i + 1) ⟨by omega, take_step hlt hlt' he h1⟩ (by omega)
 ·obtain rfl : i = xs.length := by omega
  simp -implicitDefEqProofs (disch := first | exact dd | fail) [Try.f150, ABr, AGd]
  exact take_all (by omega) he
def mkOpen (x : DOpen) (k : Int) : DOpen := { inode := k, pos := (k + 1), flags := ((k + 1) + 1) }
def nmOpen (x : DOpen) : Nat := 3
abbrev mLOpen (xs : List DOpen) (k : Int) : List DOpen := mkL mkOpen nmOpen xs k
abbrev nLOpen (xs : List DOpen) : Nat := wList nmOpen xs
set_option maxHeartbeats 8000000 in
set_option maxRecDepth 4000 in
theorem laws_markOpenS (xs : List DOpen) (k : Int) (hl : xs.length ≤ 1048576) (hk : 0 ≤ k) (hn : k + nLOpen xs ≤ 16777216) :
  Snd Try.prog 122 [.row 3 (xs.map cOpen), .int .i64 k] (.int .i64 (k + nLOpen xs)) [.row 3 ((mLOpen xs k).map cOpen), .unk] := Runs.snd (M := M) (c := ⟨2, [4, 5, 9], [], []⟩) tok ks mixed Try.func122 (p := [0]) (by kernel_rfl) (by rfl) (by rfl) <| by
 have hml : (mLOpen xs k).length = xs.length := mkL_len
 simp -implicitDefEqProofs (disch := first | exact dd | fail) [Try.f122, ABr, AGd]
 rw [patch_zero (c := cOpen) (ms := mLOpen xs k) (xs := xs)]
 refine AL_ind (ι := Nat × Int) (fun x => xs.length - x.1) (fun x => ⟨[(0, .ref 0 none 3 0 xs.length none), (1, .int .i64 x.2), (4, .int .i64 0), (5, .int .i64 x.1)], [(0, .row 3 (patch cOpen (mLOpen xs k) xs x.1) [])], false⟩)
  (fun x => x.1 ≤ xs.length ∧ x.2 = k + wList nmOpen (xs.take x.1)) (0, k) rfl ⟨by simp, by simp [wList]⟩ ?_
 rintro ⟨i, a⟩ n ⟨hi, ha⟩ ih
 simp only at hi ha ⊢
 rcases Nat.lt_or_ge i xs.length with hlt | hge
 ·have hw := wList_take (n := nmOpen) hlt
  have hle := wList_take_le (n := nmOpen) (xs := xs) (i := i + 1)
  have hpl := patch_len (c := cOpen) hml hi
  have hg := patch_get (c := cOpen) hml hlt
  have hpi := Nat.lt_of_lt_of_eq hlt hpl.symm
  rw [List.getElem?_eq_getElem hpi] at hg
  have hg := Option.some.inj hg
  have hs := patch_put (c := cOpen) hml hlt (mkL_get (f := mkOpen) hlt)
  rw [← ha] at hs
  simp only [cOpen, mkOpen, nmOpen] at hg hs hw
  simp only [nLOpen] at hn
  simp -implicitDefEqProofs (disch := first | exact dd | fail) [Try.f122, hlt, hg, hs, patch_len hml, List.set_set, cOpen, ABr, AGd]
  refine ih (i + 1, _) ⟨by simp only; omega, ?_⟩ (by simp only; omega)
  simp only
  omega
 ·obtain rfl : i = xs.length := by omega
  simp -implicitDefEqProofs (disch := first | exact dd | fail) [Try.f122, patch_len hml, patch_end hml, hml, ABr, AGd]
  rw [ha, List.take_length]
end Go.Proofs.Ytpofjodnljeegaa
