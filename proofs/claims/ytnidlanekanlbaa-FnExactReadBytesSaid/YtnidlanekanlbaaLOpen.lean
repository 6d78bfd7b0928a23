import Derived.Test.YtnidlanekanlbaaDat
import Derived.Test.YtnidlanekanlbaaBase
namespace Go.Proofs.Ytnidlanekanlbaa
open Go.Fw
set_option linter.unusedVariables false
set_option linter.unusedSimpArgs false
set_option maxHeartbeats 8000000 in
set_option maxRecDepth 4000 in
theorem laws_toOpen (x : DOpen) :
   Snd Try.prog 226 [.agg [.int .i64 x.inode, .int .i64 x.pos, .int .i64 x.flags]] (.agg [.int .i64 x.inode, .int .i64 x.pos, .int .i64 x.flags]) [.unk] := Runs.snd (M := M) (c := ⟨1, [1, 2, 3], [], []⟩) tok ks mixed Try.func226 (p := []) (by kernel_rfl) (by rfl) (by rfl) <| by
  simp -implicitDefEqProofs (disch := first | assumption | omega | (refine of_indep ?_; kernel_rfl) | (simp; done) | fail) [Try.f226, ABr, AGd]
set_option maxHeartbeats 8000000 in
set_option maxRecDepth 4000 in
theorem laws_eqOpen (x y : DOpen) :
   Snd Try.prog 227 [.agg [.int .i64 x.inode, .int .i64 x.pos, .int .i64 x.flags], .agg [.int .i64 y.inode, .int .i64 y.pos, .int .i64 y.flags]] (.bool (decide (x = y))) [.unk, .unk] := Runs.snd (M := M) (c := ⟨2, [2, 3, 4, 9, 14, 19], [], []⟩) tok ks mixed Try.func227 (p := []) (by kernel_rfl) (by rfl) (by rfl) <| by
  simp -implicitDefEqProofs (disch := first | assumption | omega | (refine of_indep ?_; kernel_rfl) | (simp; done) | fail) [Try.f227, ABr, AGd]
  refine ⟨fun h => by (rintro rfl; first | exact h rfl | simp at h), fun _ => ?_⟩
  refine ⟨fun h => by (rintro rfl; first | exact h rfl | simp at h), fun _ => ?_⟩
  refine ⟨fun h => by (rintro rfl; first | exact h rfl | simp at h), fun _ => ?_⟩
  cases x
  cases y
  simp_all
set_option maxHeartbeats 8000000 in
set_option maxRecDepth 4000 in
theorem laws_szOpenS (nl : Option Bool) (l : List DOpen) (n : Int) (h0 : 0 ≤ n) (h1 : n ≤ 1048576) (hl : l.length ≤ maxLen) :
   Snd Try.prog 188 [.frz 3 nl (l.map cOpen), .int .i64 n] (.int .i64 (szR l.length n)) [.unk, .unk] := Runs.snd (M := M) (c := ⟨2, [4, 10], [], []⟩) tok ks mixed Try.func188 (p := []) (by kernel_rfl) (by rfl) (by rfl) <| by
  unfold maxLen at *
  simp -implicitDefEqProofs (disch := first | assumption | omega | (refine of_indep ?_; kernel_rfl) | (simp; done) | fail) [Try.f188, ABr, AGd]
  exact ⟨fun h => by rw [szR, if_pos (by omega)], fun h => by rw [szR, if_neg (by omega)]⟩
set_option maxHeartbeats 8000000 in
set_option maxRecDepth 4000 in
theorem laws_toOpenS (nl : Option Bool) (xs : List DOpen) (hl : xs.length ≤ 1048576) :
   Snd Try.prog 190 [.frz 3 nl (xs.map cOpen)] (.row 3 (xs.map cOpen)) [.unk] := Runs.snd (M := M) (c := ⟨1, [2, 3, 4, 11], [], []⟩) tok ks mixed Try.func190 (p := []) (by kernel_rfl) (by rfl) (by rfl) <| by
  have hl' : (xs.length : Int) ≤ 1073741824 := by omega
  simp -implicitDefEqProofs (disch := first | assumption | omega | (refine of_indep ?_; kernel_rfl) | (simp; done) | fail) [Try.f190, LIM, hl', ABr, AGd]
  rw [fillTo_zero (c := cOpen)]
  refine AL_ind (fun i => xs.length - i) (fun i => ⟨[(0, .frz 3 nl (xs.map cOpen)), (2, .frz 0 (some true) []), (3, .ref 384 none 3 0 xs.length (some false)), (4, .int .i64 i)], [(384, .row 3 (fillTo cOpen [.int .i64 0, .int .i64 0, .int .i64 0] xs i) [])], false⟩)
    (fun i => i ≤ xs.length) 0 rfl (by omega) ?_
  intro i n hi ih
  rcases Nat.lt_or_ge i xs.length with hlt | hge
  · have hs := fillTo_set (c := cOpen) (z := [.int .i64 0, .int .i64 0, .int .i64 0]) hlt
    have hg := fillTo_get (c := cOpen) (z := [.int .i64 0, .int .i64 0, .int .i64 0]) hlt
    simp only [cOpen] at hs hg
    simp -implicitDefEqProofs (disch := first | assumption | omega | (refine of_indep ?_; kernel_rfl) | (simp; done) | fail) [Try.f190, hlt, hs, hg, fillTo_len, cOpen, ABr, AGd]
    refine AC_snd (laws_toOpen  _) ?_
    simp -implicitDefEqProofs (disch := first | assumption | omega | (refine of_indep ?_; kernel_rfl) | (simp; done) | fail) [Try.f190, hlt, hs, hg, fillTo_len, cOpen, ABr, AGd]
    exact ih (i + 1) (by omega) (by omega)
  · obtain rfl : i = xs.length := by omega
    simp -implicitDefEqProofs (disch := first | assumption | omega | (refine of_indep ?_; kernel_rfl) | (simp; done) | fail) [Try.f190, fillTo_len, fillTo_end, ABr, AGd]
set_option maxHeartbeats 8000000 in
set_option maxRecDepth 4000 in
theorem laws_eqOpenS (n1 n2 : Option Bool) (xs ys : List DOpen) (hl : xs.length ≤ 1048576) :
   Snd Try.prog 192 [.frz 3 n1 (xs.map cOpen), .frz 3 n2 (ys.map cOpen)] (.bool (decide (xs = ys))) [.unk, .unk] := Runs.snd (M := M) (c := ⟨2, [4, 5, 10, 14, 26], [], []⟩) tok ks mixed Try.func192 (p := []) (by kernel_rfl) (by rfl) (by rfl) <| by
  simp -implicitDefEqProofs (disch := first | assumption | omega | (refine of_indep ?_; kernel_rfl) | (simp; done) | fail) [Try.f192, ABr, AGd]
  refine ⟨fun h => by rintro rfl; exact h rfl, fun h => ?_⟩
  refine AL_ind (fun i => xs.length - i) (fun i => ⟨[(0, .frz 3 n1 (xs.map cOpen)), (1, .frz 3 n2 (ys.map cOpen)), (4, .bool false), (5, .int .i64 i)], [], false⟩)
    (fun i => i ≤ xs.length ∧ xs.take i = ys.take i) 0 rfl ⟨by omega, rfl⟩ ?_
  rintro i n ⟨hi, he⟩ ih
  rcases Nat.lt_or_ge i xs.length with hlt | hge
  · have hlt' : i < ys.length := by omega
    simp -implicitDefEqProofs (disch := first | assumption | omega | (refine of_indep ?_; kernel_rfl) | (simp; done) | fail) [Try.f192, hlt, hlt', cOpen, ABr, AGd]
    refine AC_snd (laws_eqOpen   _ _) ?_
    simp -implicitDefEqProofs (disch := first | assumption | omega | (refine of_indep ?_; kernel_rfl) | (simp; done) | fail) [Try.f192, hlt, hlt', cOpen, ABr, AGd]
    refine ⟨fun h1 => by rintro rfl; exact h1 rfl, fun h1 => ?_⟩
    exact ih (i + 1) ⟨by omega, take_step hlt hlt' he h1⟩ (by omega)
  · obtain rfl : i = xs.length := by omega
    simp -implicitDefEqProofs (disch := first | assumption | omega | (refine of_indep ?_; kernel_rfl) | (simp; done) | fail) [Try.f192, ABr, AGd]
    exact take_all (by omega) he
def mkOpen (x : DOpen) (k : Int) : DOpen := { inode := k, pos := (k + 1), flags := ((k + 1) + 1) }
def nmOpen (x : DOpen) : Nat := 3
abbrev mLOpen (xs : List DOpen) (k : Int) : List DOpen := mkL mkOpen nmOpen xs k
abbrev nLOpen (xs : List DOpen) : Nat := wList nmOpen xs
end Go.Proofs.Ytnidlanekanlbaa
