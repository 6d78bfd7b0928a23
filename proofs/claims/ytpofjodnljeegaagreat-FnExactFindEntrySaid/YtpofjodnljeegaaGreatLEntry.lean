import Derived.Test.YtpofjodnljeegaaGreatLA
namespace Go.Proofs.YtpofjodnljeegaaGreat
open Go.Fw
set_option linter.unusedVariables false
set_option linter.unusedSimpArgs false
structure WfDirEntry (x : DEntry) : Prop where
 hl_name : x.name.length ≤ maxLen
def wDirEntry (x : DEntry) : Nat := x.name.length
set_option maxHeartbeats 8000000 in
set_option maxRecDepth 4000 in
theorem laws_eqDirEntry (x y : DEntry) :
  Snd Tryz.prog 42 [.agg [.str x.name, .int .i64 x.inode], .agg [.str y.name, .int .i64 y.inode]] (.bool (decide (x = y))) [.unk, .unk] := Runs.snd (M := M) (c := ⟨2, [2, 3, 4, 9, 14], [], []⟩) tok ks mixed Tryz.func42 (p := []) (by kernel_rfl) (by rfl) (by rfl) <| by
 simp -implicitDefEqProofs (disch := first | exact dd | fail) [Tryz.f42, ABr, AGd]
 refine ⟨fun h => by (rintro rfl; first | exact h rfl | simp at h), fun _ => ?_⟩
 refine ⟨fun h => by (rintro rfl; first | exact h rfl | simp at h), fun _ => ?_⟩
 cases x
 cases y
 simp_all
def wLDirEntry (xs : List DEntry) : Nat := xs.length + wList wDirEntry xs
set_option maxHeartbeats 8000000 in
set_option maxRecDepth 4000 in
theorem laws_eqDirEntryS (n1 n2 : Option Bool) (xs ys : List DEntry) (hl : xs.length ≤ 1048576) :
  Snd Tryz.prog 18 [.frz 2 n1 (xs.map cEntry), .frz 2 n2 (ys.map cEntry)] (.bool (decide (xs = ys))) [.unk, .unk] := Runs.snd (M := M) (c := ⟨2, [4, 5, 10, 14, 26], [], []⟩) tok ks mixed Tryz.func18 (p := []) (by kernel_rfl) (by rfl) (by rfl) <| by
 simp -implicitDefEqProofs (disch := first | exact dd | fail) [Tryz.f18, ABr, AGd]
 refine ⟨fun h => by rintro rfl; exact h rfl, fun h => ?_⟩
 refine AL_ind (fun i => xs.length - i) (fun i => ⟨[(0, .frz 2 n1 (xs.map cEntry)), (1, .frz 2 n2 (ys.map cEntry)), (4, .bool false), (5, .int .i64 i)], [], false⟩)
  (fun i => i ≤ xs.length ∧ xs.take i = ys.take i) 0 rfl ⟨by omega, rfl⟩ ?_
 rintro i n ⟨hi, he⟩ ih
 rcases Nat.lt_or_ge i xs.length with hlt | hge
 ·have hlt' : i < ys.length := by omega
  simp -implicitDefEqProofs (disch := first | exact dd | fail) [Tryz.f18, hlt, hlt', cEntry, ABr, AGd]
  refine AC_snd (laws_eqDirEntry   _ _) ?_
  simp -implicitDefEqProofs (disch := first | exact dd | fail) [Tryz.f18, hlt, hlt', cEntry, ABr, AGd]
  refine ⟨fun h1 => by rintro rfl; exact h1 rfl, fun h1 => ?_⟩
  exact ih (i + 1) ⟨by omega, take_step hlt hlt' he h1⟩ (by omega)
 ·obtain rfl : i = xs.length := by omega
  simp -implicitDefEqProofs (disch := first | exact dd | fail) [Tryz.f18, ABr, AGd]
  exact take_all (by omega) he
def mkDirEntry (x : DEntry) (k : Int) : DEntry := { name := markT k, inode := (k + 1) }
def nmDirEntry (x : DEntry) : Nat := 2
abbrev mLDirEntry (xs : List DEntry) (k : Int) : List DEntry := mkL mkDirEntry nmDirEntry xs k
abbrev nLDirEntry (xs : List DEntry) : Nat := wList nmDirEntry xs
set_option maxHeartbeats 8000000 in
set_option maxRecDepth 4000 in
theorem laws_markDirEntryS (xs : List DEntry) (k : Int) (hl : xs.length ≤ 1048576) (hk : 0 ≤ k) (hn : k + nLDirEntry xs ≤ 16777216) :
  Snd Tryz.prog 20 [.row 2 (xs.map cEntry), .int .i64 k] (.int .i64 (k + nLDirEntry xs)) [.row 2 ((mLDirEntry xs k).map cEntry), .unk] := Runs.snd (M := M) (c := ⟨2, [4, 5, 9], [], []⟩) tok ks mixed Tryz.func20 (p := [0]) (by kernel_rfl) (by rfl) (by rfl) <| by
 have hml : (mLDirEntry xs k).length = xs.length := mkL_len
 simp -implicitDefEqProofs (disch := first | exact dd | fail) [Tryz.f20, ABr, AGd]
 rw [patch_zero (c := cEntry) (ms := mLDirEntry xs k) (xs := xs)]
 refine AL_ind (ι := Nat × Int) (fun x => xs.length - x.1) (fun x => ⟨[(0, .ref 0 none 2 0 xs.length none), (1, .int .i64 x.2), (4, .int .i64 0), (5, .int .i64 x.1)], [(0, .row 2 (patch cEntry (mLDirEntry xs k) xs x.1) [])], false⟩)
  (fun x => x.1 ≤ xs.length ∧ x.2 = k + wList nmDirEntry (xs.take x.1)) (0, k) rfl ⟨by simp, by simp [wList]⟩ ?_
 rintro ⟨i, a⟩ n ⟨hi, ha⟩ ih
 simp only at hi ha ⊢
 rcases Nat.lt_or_ge i xs.length with hlt | hge
 ·have hw := wList_take (n := nmDirEntry) hlt
  have hle := wList_take_le (n := nmDirEntry) (xs := xs) (i := i + 1)
  have hpl := patch_len (c := cEntry) hml hi
  have hg := patch_get (c := cEntry) hml hlt
  have hpi := Nat.lt_of_lt_of_eq hlt hpl.symm
  rw [List.getElem?_eq_getElem hpi] at hg
  have hg := Option.some.inj hg
  have hs := patch_put (c := cEntry) hml hlt (mkL_get (f := mkDirEntry) hlt)
  rw [← ha] at hs
  simp only [cEntry, mkDirEntry, nmDirEntry] at hg hs hw
  simp only [nLDirEntry] at hn
  simp -implicitDefEqProofs (disch := first | exact dd | fail) [Tryz.f20, hlt, hg, hs, patch_len hml, List.set_set, cEntry, ABr, AGd]
  refine AC_snd (laws_markText _ (by omega)) ?_
  simp -implicitDefEqProofs (disch := first | exact dd | fail) [Tryz.f20, hlt, hg, hs, patch_len hml, List.set_set, cEntry, ABr, AGd]
  refine ih (i + 1, _) ⟨by simp only; omega, ?_⟩ (by simp only; omega)
  simp only
  omega
 ·obtain rfl : i = xs.length := by omega
  simp -implicitDefEqProofs (disch := first | exact dd | fail) [Tryz.f20, patch_len hml, patch_end hml, hml, ABr, AGd]
  rw [ha, List.take_length]
set_option maxHeartbeats 8000000 in
set_option maxRecDepth 4000 in
theorem laws_heldDirEntryS (nl : Option Bool) (xs : List DEntry) (k : Int) (hl : xs.length ≤ 1048576) (hk : 0 ≤ k) (hn : k + nLDirEntry xs ≤ 16777216) :
  Snd Tryz.prog 21 [.frz 2 nl ((mLDirEntry xs k).map cEntry), .int .i64 k] (.int .i64 (k + nLDirEntry xs)) [.unk, .unk] := Runs.snd (M := M) (c := ⟨2, [4, 5, 9, 19, 28], [], []⟩) tok ks mixed Tryz.func21 (p := []) (by kernel_rfl) (by rfl) (by rfl) <| by
 have hml : (mLDirEntry xs k).length = xs.length := mkL_len
 simp -implicitDefEqProofs (disch := first | exact dd | fail) [Tryz.f21, hml, ABr, AGd]
 refine AL_ind (ι := Nat × Int) (fun x => xs.length - x.1) (fun x => ⟨[(0, .frz 2 nl ((mLDirEntry xs k).map cEntry)), (1, .int .i64 x.2), (4, .int .i64 0), (5, .int .i64 x.1)], [], false⟩)
  (fun x => x.1 ≤ xs.length ∧ x.2 = k + wList nmDirEntry (xs.take x.1)) (0, k) rfl ⟨by simp, by simp [wList]⟩ ?_
 rintro ⟨i, a⟩ n ⟨hi, ha⟩ ih
 simp only at hi ha ⊢
 rcases Nat.lt_or_ge i xs.length with hlt | hge
 ·have hw := wList_take (n := nmDirEntry) hlt
  have hle := wList_take_le (n := nmDirEntry) (xs := xs) (i := i + 1)
  have hg := mkL_get (f := mkDirEntry) (n := nmDirEntry) (k := k) hlt
  rw [← ha] at hg
  have hlt' : i < (mLDirEntry xs k).length := by omega
  rw [List.getElem?_eq_getElem hlt'] at hg
  have hg := Option.some.inj hg
  simp only [mkDirEntry, nmDirEntry] at hg hw
  simp only [nLDirEntry] at hn
  (try simp -implicitDefEqProofs (disch := first | exact dd | fail) [Tryz.f21, hlt, hlt', hg, hml, cEntry]); (repeat' ((with_reducible first | (refine Br.out ?_ ?_ <;> intro h <;> (try (have h0 := h; simp only [bH] at h))) | refine AC_snd (laws_markText _ (by omega)) ?_ | fail) <;> (try simp -implicitDefEqProofs (disch := first | exact dd | fail) [Tryz.f21, hlt, hlt', hg, hml, cEntry])))
  all_goals try omega
  refine ih (i + 1, _) ⟨by simp only; omega, ?_⟩ (by simp only; omega)
  simp only
  omega
 ·obtain rfl : i = xs.length := by omega
  simp -implicitDefEqProofs (disch := first | exact dd | fail) [Tryz.f21, hml, ABr, AGd]
  rw [ha, List.take_length]
end Go.Proofs.YtpofjodnljeegaaGreat
