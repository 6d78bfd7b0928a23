import Derived.Test.YtpofjodnljeegaaDat
import Derived.Test.YtpofjodnljeegaaBase
namespace Go.Proofs.Ytpofjodnljeegaa
open Go.Fw
set_option linter.unusedVariables false
set_option linter.unusedSimpArgs false
set_option maxHeartbeats 8000000 in
set_option maxRecDepth 4000 in
theorem laws_toAclEntry (x : DAcl) :
  Snd Try.prog 151 [.agg [.int .i64 x.tag, .int .i64 x.id, .int .i64 x.perm]] (.agg [.int .i64 x.tag, .int .i64 x.id, .int .i64 x.perm]) [.unk] := Runs.snd (M := M) (c := ⟨1, [1, 2, 3], [], []⟩) tok ks mixed Try.func151 (p := []) (by kernel_rfl) (by rfl) (by rfl) <| by
 simp -implicitDefEqProofs (disch := first | exact dd | fail) [Try.f151, ABr, AGd]
set_option maxHeartbeats 8000000 in
set_option maxRecDepth 4000 in
theorem laws_eqAclEntry (x y : DAcl) :
  Snd Try.prog 152 [.agg [.int .i64 x.tag, .int .i64 x.id, .int .i64 x.perm], .agg [.int .i64 y.tag, .int .i64 y.id, .int .i64 y.perm]] (.bool (decide (x = y))) [.unk, .unk] := Runs.snd (M := M) (c := ⟨2, [2, 3, 4, 9, 14, 19], [], []⟩) tok ks mixed Try.func152 (p := []) (by kernel_rfl) (by rfl) (by rfl) <| by
 simp -implicitDefEqProofs (disch := first | exact dd | fail) [Try.f152, ABr, AGd]
 refine ⟨fun h => by (rintro rfl; first | exact h rfl | simp at h), fun _ => ?_⟩
 refine ⟨fun h => by (rintro rfl; first | exact h rfl | simp at h), fun _ => ?_⟩
 refine ⟨fun h => by (rintro rfl; first | exact h rfl | simp at h), fun _ => ?_⟩
 cases x
 cases y
 simp_all
set_option maxHeartbeats 8000000 in
set_option maxRecDepth 4000 in
theorem laws_szAclEntryS (nl : Option Bool) (l : List DAcl) (n : Int) (h0 : 0 ≤ n) (h1 : n ≤ 1048576) (hl : l.length ≤ maxLen) :
  Snd Try.prog 127 [.frz 3 nl (l.map cAcl), .int .i64 n] (.int .i64 (szR l.length n)) [.unk, .unk] := Runs.snd (M := M) (c := ⟨2, [4, 10], [], []⟩) tok ks mixed Try.func127 (p := []) (by kernel_rfl) (by rfl) (by rfl) <| by
 unfold maxLen at *
 simp -implicitDefEqProofs (disch := first | exact dd | fail) [Try.f127, ABr, AGd]
 exact ⟨fun h => by rw [szR, if_pos (by omega)], fun h => by rw [szR, if_neg (by omega)]⟩
set_option maxHeartbeats 8000000 in
set_option maxRecDepth 4000 in
theorem laws_toAclEntryS (nl : Option Bool) (xs : List DAcl) (hl : xs.length ≤ 1048576) :
  Snd Try.prog 129 [.frz 3 nl (xs.map cAcl)] (.row 3 (xs.map cAcl)) [.unk] := Runs.snd (M := M) (c := ⟨1, [2, 3, 4, 11], [], []⟩) tok ks mixed Try.func129 (p := []) (by kernel_rfl) (by rfl) (by rfl) <| by
 have hl' : (xs.length : Int) ≤ 1073741824 := by omega
 simp -implicitDefEqProofs (disch := first | exact dd | fail) [Try.f129, LIM, hl', ABr, AGd]
 rw [fillTo_zero (c := cAcl)]
 refine AL_ind (fun i => xs.length - i) (fun i => ⟨[(0, .frz 3 nl (xs.map cAcl)), (2, .frz 0 (some true) []), (3, .ref 384 none 3 0 xs.length (some false)), (4, .int .i64 i)], [(384, .row 3 (fillTo cAcl [.int .i64 0, .int .i64 0, .int .i64 0] xs i) [])], false⟩)
  (fun i => i ≤ xs.length) 0 rfl (by omega) ?_
 intro i n hi ih
 rcases Nat.lt_or_ge i xs.length with hlt | hge
 ·have hs := fillTo_set (c := cAcl) (z := [.int .i64 0, .int .i64 0, .int .i64 0]) hlt
  have hg := fillTo_get (c := cAcl) (z := [.int .i64 0, .int .i64 0, .int .i64 0]) hlt
  simp only [cAcl] at hs hg
  simp -implicitDefEqProofs (disch := first | exact dd | fail) [Try.f129, hlt, hs, hg, fillTo_len, cAcl, ABr, AGd]
  refine AC_snd (laws_toAclEntry  _) ?_
  simp -implicitDefEqProofs (disch := first | exact dd | fail) [Try.f129, hlt, hs, hg, fillTo_len, cAcl, ABr, AGd]
  exact ih (i + 1) (by omega) (by omega)
 ·obtain rfl : i = xs.length := by omega
  simp -implicitDefEqProofs (disch := first | exact dd | fail) [Try.f129, fillTo_len, fillTo_end, ABr, AGd]
set_option maxHeartbeats 8000000 in
set_option maxRecDepth 4000 in
theorem laws_eqAclEntryS (n1 n2 : Option Bool) (xs ys : List DAcl) (hl : xs.length ≤ 1048576) :
  Snd Try.prog 132 [.frz 3 n1 (xs.map cAcl), .frz 3 n2 (ys.map cAcl)] (.bool (decide (xs = ys))) [.unk, .unk] := Runs.snd (M := M) (c := ⟨2, [4, 5, 10, 14, 26], [], []⟩) tok ks mixed Try.func132 (p := []) (by kernel_rfl) (by rfl) (by rfl) <| by
 simp -implicitDefEqProofs (disch := first | exact dd | fail) [Try.f132, ABr, AGd]
 refine ⟨fun h => by rintro rfl; exact h rfl, fun h => ?_⟩
 refine AL_ind (fun i => xs.length - i) (fun i => ⟨[(0, .frz 3 n1 (xs.map cAcl)), (1, .frz 3 n2 (ys.map cAcl)), (4, .bool false), (5, .int .i64 i)], [], false⟩)
  (fun i => i ≤ xs.length ∧ xs.take i = ys.take i) 0 rfl ⟨by omega, rfl⟩ ?_
 rintro i n ⟨hi, he⟩ ih
 rcases Nat.lt_or_ge i xs.length with hlt | hge
 ·have hlt' : i < ys.length := by omega
  simp -implicitDefEqProofs (disch := first | exact dd | fail) [Try.f132, hlt, hlt', cAcl, ABr, AGd]
  refine AC_snd (laws_eqAclEntry   _ _) ?_
  simp -implicitDefEqProofs (disch := first | exact dd | fail) [Try.f132, hlt, hlt', cAcl, ABr, AGd]
  refine ⟨fun h1 => by rintro rfl; exact h1 rfl, fun h1 => ?_⟩
  exact ih (i + 1) ⟨by omega, take_step hlt hlt' he h1⟩ (by omega)
 ·obtain rfl : i = xs.length := by omega
  simp -implicitDefEqProofs (disch := first | exact dd | fail) [Try.f132, ABr, AGd]
  exact take_all (by omega) he
def mkAclEntry (x : DAcl) (k : Int) : DAcl := { tag := k, id := (k + 1), perm := ((k + 1) + 1) }
def nmAclEntry (x : DAcl) : Nat := 3
abbrev mLAclEntry (xs : List DAcl) (k : Int) : List DAcl := mkL mkAclEntry nmAclEntry xs k
abbrev nLAclEntry (xs : List DAcl) : Nat := wList nmAclEntry xs
set_option maxHeartbeats 8000000 in
set_option maxRecDepth 4000 in
theorem laws_markAclEntryS (xs : List DAcl) (k : Int) (hl : xs.length ≤ 1048576) (hk : 0 ≤ k) (hn : k + nLAclEntry xs ≤ 16777216) :
  Snd Try.prog 99 [.row 3 (xs.map cAcl), .int .i64 k] (.int .i64 (k + nLAclEntry xs)) [.row 3 ((mLAclEntry xs k).map cAcl), .unk] := Runs.snd (M := M) (c := ⟨2, [4, 5, 9], [], []⟩) tok ks mixed Try.func99 (p := [0]) (by kernel_rfl) (by rfl) (by rfl) <| by
 have hml : (mLAclEntry xs k).length = xs.length := mkL_len
 simp -implicitDefEqProofs (disch := first | exact dd | fail) [Try.f99, ABr, AGd]
 rw [patch_zero (c := cAcl) (ms := mLAclEntry xs k) (xs := xs)]
 refine AL_ind (ι := Nat × Int) (fun x => xs.length - x.1) (fun x => ⟨[(0, .ref 0 none 3 0 xs.length none), (1, .int .i64 x.2), (4, .int .i64 0), (5, .int .i64 x.1)], [(0, .row 3 (patch cAcl (mLAclEntry xs k) xs x.1) [])], false⟩)
  (fun x => x.1 ≤ xs.length ∧ x.2 = k + wList nmAclEntry (xs.take x.1)) (0, k) rfl ⟨by simp, by simp [wList]⟩ ?_
 rintro ⟨i, a⟩ n ⟨hi, ha⟩ ih
 simp only at hi ha ⊢
 rcases Nat.lt_or_ge i xs.length with hlt | hge
 ·have hw := wList_take (n := nmAclEntry) hlt
  have hle := wList_take_le (n := nmAclEntry) (xs := xs) (i := i + 1)
  have hpl := patch_len (c := cAcl) hml hi
  have hg := patch_get (c := cAcl) hml hlt
  have hpi := Nat.lt_of_lt_of_eq hlt hpl.symm
  rw [List.getElem?_eq_getElem hpi] at hg
  have hg := Option.some.inj hg
  have hs := patch_put (c := cAcl) hml hlt (mkL_get (f := mkAclEntry) hlt)
  rw [← ha] at hs
  simp only [cAcl, mkAclEntry, nmAclEntry] at hg hs hw
  simp only [nLAclEntry] at hn
  simp -implicitDefEqProofs (disch := first | exact dd | fail) [Try.f99, hlt, hg, hs, patch_len hml, List.set_set, cAcl, ABr, AGd]
  refine ih (i + 1, _) ⟨by simp only; omega, ?_⟩ (by simp only; omega)
  simp only
  omega
 ·obtain rfl : i = xs.length := by omega
  simp -implicitDefEqProofs (disch := first | exact dd | fail) [Try.f99, patch_len hml, patch_end hml, hml, ABr, AGd]
  rw [ha, List.take_length]
set_option maxHeartbeats 8000000 in
set_option maxRecDepth 4000 in
theorem laws_heldAclEntryS (nl : Option Bool) (xs : List DAcl) (k : Int) (hl : xs.length ≤ 1048576) (hk : 0 ≤ k) (hn : k + nLAclEntry xs ≤ 16777216) :
  Snd Try.prog 101 [.frz 3 nl ((mLAclEntry xs k).map cAcl), .int .i64 k] (.int .i64 (k + nLAclEntry xs)) [.unk, .unk] := Runs.snd (M := M) (c := ⟨2, [4, 5, 9, 18, 27, 36], [], []⟩) tok ks mixed Try.func101 (p := []) (by kernel_rfl) (by rfl) (by rfl) <| by
 have hml : (mLAclEntry xs k).length = xs.length := mkL_len
 simp -implicitDefEqProofs (disch := first | exact dd | fail) [Try.f101, hml, ABr, AGd]
 refine AL_ind (ι := Nat × Int) (fun x => xs.length - x.1) (fun x => ⟨[(0, .frz 3 nl ((mLAclEntry xs k).map cAcl)), (1, .int .i64 x.2), (4, .int .i64 0), (5, .int .i64 x.1)], [], false⟩)
  (fun x => x.1 ≤ xs.length ∧ x.2 = k + wList nmAclEntry (xs.take x.1)) (0, k) rfl ⟨by simp, by simp [wList]⟩ ?_
 rintro ⟨i, a⟩ n ⟨hi, ha⟩ ih
 simp only at hi ha ⊢
 rcases Nat.lt_or_ge i xs.length with hlt | hge
 ·have hw := wList_take (n := nmAclEntry) hlt
  have hle := wList_take_le (n := nmAclEntry) (xs := xs) (i := i + 1)
  have hg := mkL_get (f := mkAclEntry) (n := nmAclEntry) (k := k) hlt
  rw [← ha] at hg
  have hlt' : i < (mLAclEntry xs k).length := by omega
  rw [List.getElem?_eq_getElem hlt'] at hg
  have hg := Option.some.inj hg
  simp only [mkAclEntry, nmAclEntry] at hg hw
  simp only [nLAclEntry] at hn
  repeat' (first | (with_reducible first | (refine Br.out ?_ ?_ <;> intro h <;> (try (have h0 := h; simp only [bH] at h)))) | simp -implicitDefEqProofs (disch := first | exact dd | fail) [Try.f101, hlt, hlt', hg, hml, cAcl])
  all_goals try omega
  refine ih (i + 1, _) ⟨by simp only; omega, ?_⟩ (by simp only; omega)
  simp only
  omega
 ·obtain rfl : i = xs.length := by omega
  simp -implicitDefEqProofs (disch := first | exact dd | fail) [Try.f101, hml, ABr, AGd]
  rw [ha, List.take_length]
end Go.Proofs.Ytpofjodnljeegaa
