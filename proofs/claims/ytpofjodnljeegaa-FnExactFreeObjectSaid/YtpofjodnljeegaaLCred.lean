import Derived.Test.YtpofjodnljeegaaLInt
namespace Go.Proofs.Ytpofjodnljeegaa
open Go.Fw
set_option linter.unusedVariables false
set_option linter.unusedSimpArgs false
structure WfCred (x : DCred) : Prop where
 hl_groups : x.groups.length ≤ maxLen
structure SmCred (x : DCred) : Prop where
 hl_groups : x.groups.length ≤ 1048576
def wCred (x : DCred) : Nat := x.groups.length
theorem smCred_of {x : DCred} (h : wCred x ≤ 1048576) : SmCred x := by
 simp only [wCred] at h
 exact ⟨by omega⟩
set_option maxHeartbeats 8000000 in
set_option maxRecDepth 4000 in
theorem laws_szCred (n0 : Option Bool) (x : DCred) (n : Int) (h0 : 0 ≤ n) (h1 : n ≤ 1048576) (hw : WfCred x) :
  Snd Try.prog 145 [.agg [.int .i64 x.uid, .int .i64 x.gid, .frz 1 n0 (x.groups.map ci)], .int .i64 n] (.int .i64 (szR (wCred x) n)) [.unk, .unk] := Runs.snd (M := M) (c := ⟨2, [2, 4, 10], [], []⟩) tok ks mixed Try.func145 (p := []) (by kernel_rfl) (by rfl) (by rfl) <| by
 have w1 : szR (wCred x) n = _ := (rfl : _ = szR (x.groups.length) n)
 simp -implicitDefEqProofs (disch := first | exact dd | fail) [Try.f145, ABr, AGd]
 refine AC_snd (laws_szIntS _ _ _ (by omega) (by omega) hw.hl_groups) ?_
 simp -implicitDefEqProofs (disch := first | exact dd | fail) [Try.f145, w1, ABr, AGd]
 exact fun h => szR_m1 (by omega) h
set_option maxHeartbeats 8000000 in
set_option maxRecDepth 4000 in
theorem laws_toCred (n0 : Option Bool) (x : DCred) (hs : SmCred x) :
  Snd Try.prog 147 [.agg [.int .i64 x.uid, .int .i64 x.gid, .frz 1 n0 (x.groups.map ci)]] (.agg [.int .i64 x.uid, .int .i64 x.gid, .row 1 (x.groups.map ci)]) [.unk] := Runs.snd (M := M) (c := ⟨1, [1, 2, 3], [], []⟩) tok ks mixed Try.func147 (p := []) (by kernel_rfl) (by rfl) (by rfl) <| by
 simp -implicitDefEqProofs (disch := first | exact dd | fail) [Try.f147, ABr, AGd]
 refine AC_snd (laws_toIntS _ _ hs.hl_groups) ?_
 simp -implicitDefEqProofs (disch := first | exact dd | fail) [Try.f147, ABr, AGd]
set_option maxHeartbeats 8000000 in
set_option maxRecDepth 4000 in
theorem laws_eqCred (n0 : Option Bool) (n1 : Option Bool) (x y : DCred) (hs : SmCred x) :
  Snd Try.prog 149 [.agg [.int .i64 x.uid, .int .i64 x.gid, .frz 1 n0 (x.groups.map ci)], .agg [.int .i64 y.uid, .int .i64 y.gid, .frz 1 n1 (y.groups.map ci)]] (.bool (decide (x = y))) [.unk, .unk] := Runs.snd (M := M) (c := ⟨2, [2, 3, 4, 9, 14, 20], [], []⟩) tok ks mixed Try.func149 (p := []) (by kernel_rfl) (by rfl) (by rfl) <| by
 simp -implicitDefEqProofs (disch := first | exact dd | fail) [Try.f149, ABr, AGd]
 refine ⟨fun h => by (rintro rfl; first | exact h rfl | simp at h), fun _ => ?_⟩
 refine ⟨fun h => by (rintro rfl; first | exact h rfl | simp at h), fun _ => ?_⟩
 refine AC_snd (laws_eqIntS _ _ _ _ hs.hl_groups) ?_
 simp -implicitDefEqProofs (disch := first | exact dd | fail) [Try.f149, ABr, AGd]
 refine ⟨fun h => by (rintro rfl; first | exact h rfl | simp at h), fun _ => ?_⟩
 cases x
 cases y
 simp_all
def wLCred (xs : List DCred) : Nat := xs.length + wList wCred xs
def mkCred (x : DCred) (k : Int) : DCred := { uid := k, gid := (k + 1), groups := mLInt x.groups ((k + 1) + 1) }
def nmCred (x : DCred) : Nat := 2 + nLInt x.groups
abbrev mLCred (xs : List DCred) (k : Int) : List DCred := mkL mkCred nmCred xs k
abbrev nLCred (xs : List DCred) : Nat := wList nmCred xs
abbrev mtCred (x : DCred) (k : Int) : DCred := { x with groups := mLInt x.groups k }
abbrev ntCred (x : DCred) : Nat := nLInt x.groups
end Go.Proofs.Ytpofjodnljeegaa
