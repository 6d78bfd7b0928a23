import Derived.Test.YtdbdofegpjfeiaaFc
import Derived.Test.YtdbdofegpjfeiaaBase
namespace Go.Proofs.Ytdbdofegpjfeiaa
open Go.Fw
set_option linter.unusedVariables false
set_option linter.unusedSimpArgs false
set_option maxHeartbeats 1000000 in
theorem laws_szAclEntryS (nl : Option Bool) (l : List DAcl) (n : Int) (h0 : 0 ≤ n) (h1 : n ≤ 1048576) (hl : l.length ≤ maxLen) :
   Snd Try.prog 40 [.frz 3 nl (l.map cAcl), .int .i64 n] (.int .i64 (szR l.length n)) [.unk, .unk] := Runs.snd (M := M) (c := ⟨2, [4, 10], [], []⟩) tok ks mixed Try.func40 (p := []) (by kernel_rfl) (by rfl) (by rfl) <| by
  unfold maxLen at *
  simp -implicitDefEqProofs (disch := first | omega | (refine of_indep ?_; kernel_rfl) | (simp; done) | fail) [Try.f40, T3, T4, T28, T89, awp_A, AO_draw, wrap64_in, wrap8_in, tmod_nn, tdiv_nn]
  exact ⟨fun h => by rw [szR, if_pos (by omega)], fun h => by rw [szR, if_neg (by omega)]⟩
set_option maxHeartbeats 1000000 in
theorem laws_toAclEntry (x : DAcl) :
   Snd Try.prog 68 [.agg (cAcl x)] (.agg (cAcl x)) [.unk] := Runs.snd (M := M) (c := ⟨1, [1, 2, 3], [], []⟩) tok ks mixed Try.func68 (p := []) (by kernel_rfl) (by rfl) (by rfl) <| by
  simp -implicitDefEqProofs (disch := first | omega | (refine of_indep ?_; kernel_rfl) | (simp; done) | fail) [Try.f68, T2, T3, T87, T89, awp_A, AO_draw, wrap64_in, wrap8_in, tmod_nn, tdiv_nn]
set_option maxHeartbeats 1000000 in
theorem laws_eqAclEntry (x y : DAcl) :
   Snd Try.prog 69 [.agg (cAcl x), .agg (cAcl y)] (.bool (decide (x = y))) [.unk, .unk] := Runs.snd (M := M) (c := ⟨2, [2, 3, 4, 9, 14, 19], [], []⟩) tok ks mixed Try.func69 (p := []) (by kernel_rfl) (by rfl) (by rfl) <| by
  simp -implicitDefEqProofs (disch := first | omega | (refine of_indep ?_; kernel_rfl) | (simp; done) | fail) [Try.f69, T2, T3, T4, T87, awp_A, AO_draw, wrap64_in, wrap8_in, tmod_nn, tdiv_nn]
  obtain ⟨a, b, c⟩ := x
  obtain ⟨a', b', c'⟩ := y
  simp only [DAcl.mk.injEq]
  refine ⟨?_, fun h => ⟨?_, fun h => ⟨?_, ?_⟩⟩⟩ <;> simp_all
set_option maxHeartbeats 1000000 in
theorem laws_toAclEntryS (nl : Option Bool) (xs : List DAcl) (hl : xs.length ≤ 1048576) :
   Snd Try.prog 42 [.frz 3 nl (xs.map cAcl)] (.row 3 (xs.map cAcl)) [.unk] := Runs.snd (M := M) (c := ⟨1, [2, 3, 4, 11], [], []⟩) tok ks mixed Try.func42 (p := []) (by kernel_rfl) (by rfl) (by rfl) <| by
  have hl' : (xs.length : Int) ≤ 1073741824 := by omega
  simp -implicitDefEqProofs (disch := first | omega | (refine of_indep ?_; kernel_rfl) | (simp; done) | fail) [Try.f42, T3, T4, T28, T33, T87, T89, M68, awp_A, AO_draw, wrap64_in, wrap8_in, tmod_nn, tdiv_nn, LIM, hl']
  rw [fillTo_zero (c := cAcl)]
  refine AL_ind (fun i => xs.length - i) (fun i => ⟨[(0, .frz 3 nl (xs.map cAcl)), (2, .frz 0 (some true) []), (3, .ref 384 none 3 0 xs.length (some false)), (4, .int .i64 i)], [(384, .row 3 (fillTo cAcl [.int .i64 0, .int .i64 0, .int .i64 0] xs i) [])], false⟩)
    (fun i => i ≤ xs.length) 0 rfl (by omega) ?_
  intro i n hi ih
  rcases Nat.lt_or_ge i xs.length with hlt | hge
  · have hs := fillTo_set (c := cAcl) (z := [.int .i64 0, .int .i64 0, .int .i64 0]) hlt
    have hg := fillTo_get (c := cAcl) (z := [.int .i64 0, .int .i64 0, .int .i64 0]) hlt
    simp only [cAcl] at hs hg
    simp -implicitDefEqProofs (disch := first | omega | (refine of_indep ?_; kernel_rfl) | (simp; done) | fail) [Try.f42, T3, T4, T28, T33, T87, T89, M68, awp_A, AO_draw, wrap64_in, wrap8_in, tmod_nn, tdiv_nn, hlt, hs, hg, fillTo_len]
    refine AC_snd (laws_toAclEntry _) ?_
    simp -implicitDefEqProofs (disch := first | omega | (refine of_indep ?_; kernel_rfl) | (simp; done) | fail) [Try.f42, T3, T4, T28, T33, T87, T89, M68, awp_A, AO_draw, wrap64_in, wrap8_in, tmod_nn, tdiv_nn, hlt, hs, hg, fillTo_len]
    exact ih (i + 1) (by omega) (by omega)
  · obtain rfl : i = xs.length := by omega
    simp -implicitDefEqProofs (disch := first | omega | (refine of_indep ?_; kernel_rfl) | (simp; done) | fail) [Try.f42, T3, T4, T28, T33, T87, T89, M68, awp_A, AO_draw, wrap64_in, wrap8_in, tmod_nn, tdiv_nn, fillTo_len, fillTo_end]
set_option maxHeartbeats 1000000 in
theorem laws_eqAclEntryS (n1 n2 : Option Bool) (xs ys : List DAcl) (hl : xs.length ≤ maxLen) :
   Snd Try.prog 43 [.frz 3 n1 (xs.map cAcl), .frz 3 n2 (ys.map cAcl)] (.bool (decide (xs = ys))) [.unk, .unk] := Runs.snd (M := M) (c := ⟨2, [4, 5, 10, 14, 26], [], []⟩) tok ks mixed Try.func43 (p := []) (by kernel_rfl) (by rfl) (by rfl) <| by
  unfold maxLen at *
  simp -implicitDefEqProofs (disch := first | omega | (refine of_indep ?_; kernel_rfl) | (simp; done) | fail) [Try.f43, T3, T4, T33, T87, M69, awp_A, AO_draw, wrap64_in, wrap8_in, tmod_nn, tdiv_nn]
  refine ⟨fun h => by rintro rfl; exact h rfl, fun h => ?_⟩
  refine AL_ind (fun i => xs.length - i) (fun i => ⟨[(0, .frz 3 n1 (xs.map cAcl)), (1, .frz 3 n2 (ys.map cAcl)), (4, .bool false), (5, .int .i64 i)], [], false⟩)
    (fun i => i ≤ xs.length ∧ xs.take i = ys.take i) 0 rfl ⟨by omega, rfl⟩ ?_
  rintro i n ⟨hi, he⟩ ih
  rcases Nat.lt_or_ge i xs.length with hlt | hge
  · have hlt' : i < ys.length := by omega
    simp -implicitDefEqProofs (disch := first | omega | (refine of_indep ?_; kernel_rfl) | (simp; done) | fail) [Try.f43, T3, T4, T33, T87, M69, awp_A, AO_draw, wrap64_in, wrap8_in, tmod_nn, tdiv_nn, hlt, hlt']
    refine AC_snd (laws_eqAclEntry _ _) ?_
    simp -implicitDefEqProofs (disch := first | omega | (refine of_indep ?_; kernel_rfl) | (simp; done) | fail) [Try.f43, T3, T4, T33, T87, M69, awp_A, AO_draw, wrap64_in, wrap8_in, tmod_nn, tdiv_nn, hlt, hlt']
    refine ⟨fun h1 => by rintro rfl; exact h1 rfl, fun h1 => ?_⟩
    exact ih (i + 1) ⟨by omega, take_step hlt hlt' he h1⟩ (by omega)
  · obtain rfl : i = xs.length := by omega
    simp -implicitDefEqProofs (disch := first | omega | (refine of_indep ?_; kernel_rfl) | (simp; done) | fail) [Try.f43, T3, T4, T33, T87, M69, awp_A, AO_draw, wrap64_in, wrap8_in, tmod_nn, tdiv_nn]
    exact take_all (by omega) he
def wCall (c : DCall) : Nat := c.path.length + (c.other.length + (c.data.length + (c.acl.length + c.dflt.length)))
set_option maxHeartbeats 1000000 in
theorem laws_szCall (n1 n2 : Option Bool) (c : DCall) (n : Int) (h0 : 0 ≤ n) (h1 : n ≤ 1048576) (g1 : c.path.length ≤ maxLen) (g2 : c.other.length ≤ maxLen) (g3 : c.data.length ≤ maxLen) (g4 : c.acl.length ≤ maxLen) (g5 : c.dflt.length ≤ maxLen) :
   Snd Try.prog 14 [fCall n1 n2 c, .int .i64 n] (.int .i64 (szR (wCall c) n)) [.unk, .unk] := Runs.snd (M := M) (c := ⟨2, [2, 4, 11, 18, 25, 31, 37], [], []⟩) tok ks mixed Try.func14 (p := []) (by kernel_rfl) (by rfl) (by rfl) <| by
  have k4 := g4
  have k5 := g5
  unfold maxLen at g1 g2 g3 g4 g5
  have w1 : szR (wCall c) n = _ := szR_step _ _ _
  simp -implicitDefEqProofs (disch := first | omega | (refine of_indep ?_; kernel_rfl) | (simp; done) | fail) [Try.f14, T2, T3, T4, T9, T28, T30, T89, M40, awp_A, AO_draw, wrap64_in, wrap8_in, tmod_nn, tdiv_nn]
  refine ⟨fun h => by rw [w1, if_pos h], fun h => ?_⟩
  rw [if_neg (by omega), szR_step] at w1
  simp -implicitDefEqProofs (disch := omega) only [wrap64_in]
  refine ⟨fun h => by rw [w1, if_pos h], fun h => ?_⟩
  rw [if_neg (by omega), szR_step] at w1
  simp -implicitDefEqProofs (disch := omega) only [wrap64_in]
  refine ⟨fun h => by rw [w1, if_pos h], fun h => ?_⟩
  rw [if_neg (by omega), szR_step] at w1
  refine AC_snd (laws_szAclEntryS _ _ _ (by omega) (by omega) k4) ?_
  simp -implicitDefEqProofs (disch := first | omega | (refine of_indep ?_; kernel_rfl) | (simp; done) | fail) [Try.f14, T2, T3, T4, T9, T28, T30, T89, M40, awp_A, AO_draw, wrap64_in, wrap8_in, tmod_nn, tdiv_nn]
  refine ⟨fun h => by rw [w1, if_pos (szR_lt (by omega) h)], fun h => ?_⟩
  obtain ⟨e, h'⟩ := szR_ge h
  rw [if_neg (by omega)] at w1
  rw [e]
  refine AC_snd (laws_szAclEntryS _ _ _ (by omega) (by omega) k5) ?_
  simp -implicitDefEqProofs (disch := first | omega | (refine of_indep ?_; kernel_rfl) | (simp; done) | fail) [Try.f14, T2, T3, T4, T9, T28, T30, T89, M40, awp_A, AO_draw, wrap64_in, wrap8_in, tmod_nn, tdiv_nn, w1]
  exact fun h => szR_m1 (by omega) h
def isChange (c : DCall) : Bool := !(decide (c.kind = 3) || decide (c.kind = 5) || decide (c.kind = 12) || decide (c.kind = 13)) && decide (1 ≤ c.kind) && decide (c.kind ≤ 16)
set_option maxHeartbeats 1000000 in
theorem spec_l01In (n a b : Int) : Snd Try.prog 41 [.int .i64 n, .int .i64 a, .int .i64 b] (.bool (decide (a ≤ n) && decide (n ≤ b))) [.unk, .unk, .unk] := Runs.snd (M := M) (c := ⟨3, [6], [], []⟩) tok ks mixed Try.func41 (p := []) (by kernel_rfl) (by rfl) (by rfl) <| by
  by_cases h : n ≥ a
  · have h' : a ≤ n := h
    simp -implicitDefEqProofs (disch := first | omega | (refine of_indep ?_; kernel_rfl) | (simp; done) | fail) [Try.f41, T3, T4, awp_A, AO_draw, wrap64_in, wrap8_in, tmod_nn, tdiv_nn, h, h']
  · have h' : ¬ a ≤ n := h
    simp -implicitDefEqProofs (disch := first | omega | (refine of_indep ?_; kernel_rfl) | (simp; done) | fail) [Try.f41, T3, T4, awp_A, AO_draw, wrap64_in, wrap8_in, tmod_nn, tdiv_nn, h, h']
set_option maxHeartbeats 1000000 in
theorem spec_IsChange (n1 n2 : Option Bool) (c : DCall) : Snd Try.prog 15 [fCall n1 n2 c] (.bool (isChange c)) [.unk] := Runs.snd (M := M) (c := ⟨1, [1, 2, 4, 5], [5], []⟩) tok ks mixed Try.func15 (p := []) (by kernel_rfl) (by rfl) (by rfl) <| by
  by_cases h1 : c.kind = 3
  · simp -implicitDefEqProofs (disch := first | omega | (refine of_indep ?_; kernel_rfl) | (simp; done) | fail) [Try.f15, T3, T4, T9, T33, T35, T87, M41, awp_A, AO_draw, wrap64_in, wrap8_in, tmod_nn, tdiv_nn, h1, isChange]
  by_cases h2 : c.kind = 5
  · simp -implicitDefEqProofs (disch := first | omega | (refine of_indep ?_; kernel_rfl) | (simp; done) | fail) [Try.f15, T3, T4, T9, T33, T35, T87, M41, awp_A, AO_draw, wrap64_in, wrap8_in, tmod_nn, tdiv_nn, h1, h2, isChange]
  by_cases h3 : c.kind = 12
  · simp -implicitDefEqProofs (disch := first | omega | (refine of_indep ?_; kernel_rfl) | (simp; done) | fail) [Try.f15, T3, T4, T9, T33, T35, T87, M41, awp_A, AO_draw, wrap64_in, wrap8_in, tmod_nn, tdiv_nn, h1, h2, h3, isChange]
  by_cases h4 : c.kind = 13
  · simp -implicitDefEqProofs (disch := first | omega | (refine of_indep ?_; kernel_rfl) | (simp; done) | fail) [Try.f15, T3, T4, T9, T33, T35, T87, M41, awp_A, AO_draw, wrap64_in, wrap8_in, tmod_nn, tdiv_nn, h1, h2, h3, h4, isChange]
  simp -implicitDefEqProofs (disch := first | omega | (refine of_indep ?_; kernel_rfl) | (simp; done) | fail) [Try.f15, T3, T4, T9, T33, T35, T87, M41, awp_A, AO_draw, wrap64_in, wrap8_in, tmod_nn, tdiv_nn, h1, h2, h3, h4, isChange]
  refine AC_snd (spec_l01In _ _ _) ?_
  simp -implicitDefEqProofs (disch := first | omega | (refine of_indep ?_; kernel_rfl) | (simp; done) | fail) [Try.f15, T3, T4, T9, T33, T35, T87, M41, awp_A, AO_draw, wrap64_in, wrap8_in, tmod_nn, tdiv_nn, h1, h2, h3, h4, isChange]
set_option maxHeartbeats 1000000 in
theorem impl_IsChange (n1 n2 : Option Bool) (c : DCall) : Snd Try.prog 17 [fCall n1 n2 c] (.bool (isChange c)) [.unk] := Runs.snd (M := M) (c := ⟨1, [1, 2, 4, 5], [5], []⟩) tok ks mixed Try.func17 (p := []) (by kernel_rfl) (by rfl) (by rfl) <| by
  by_cases h1 : c.kind = 3
  · simp -implicitDefEqProofs (disch := first | omega | (refine of_indep ?_; kernel_rfl) | (simp; done) | fail) [Try.f17, T3, T4, T9, T33, T35, T87, awp_A, AO_draw, wrap64_in, wrap8_in, tmod_nn, tdiv_nn, h1, isChange]
  by_cases h2 : c.kind = 5
  · simp -implicitDefEqProofs (disch := first | omega | (refine of_indep ?_; kernel_rfl) | (simp; done) | fail) [Try.f17, T3, T4, T9, T33, T35, T87, awp_A, AO_draw, wrap64_in, wrap8_in, tmod_nn, tdiv_nn, h1, h2, isChange]
  by_cases h3 : c.kind = 12
  · simp -implicitDefEqProofs (disch := first | omega | (refine of_indep ?_; kernel_rfl) | (simp; done) | fail) [Try.f17, T3, T4, T9, T33, T35, T87, awp_A, AO_draw, wrap64_in, wrap8_in, tmod_nn, tdiv_nn, h1, h2, h3, isChange]
  by_cases h4 : c.kind = 13
  · simp -implicitDefEqProofs (disch := first | omega | (refine of_indep ?_; kernel_rfl) | (simp; done) | fail) [Try.f17, T3, T4, T9, T33, T35, T87, awp_A, AO_draw, wrap64_in, wrap8_in, tmod_nn, tdiv_nn, h1, h2, h3, h4, isChange]
  by_cases h5 : 1 ≤ c.kind
  · simp -implicitDefEqProofs (disch := first | omega | (refine of_indep ?_; kernel_rfl) | (simp; done) | fail) [Try.f17, T3, T4, T9, T33, T35, T87, awp_A, AO_draw, wrap64_in, wrap8_in, tmod_nn, tdiv_nn, h1, h2, h3, h4, h5, isChange]
  · simp -implicitDefEqProofs (disch := first | omega | (refine of_indep ?_; kernel_rfl) | (simp; done) | fail) [Try.f17, T3, T4, T9, T33, T35, T87, awp_A, AO_draw, wrap64_in, wrap8_in, tmod_nn, tdiv_nn, h1, h2, h3, h4, h5, isChange]
set_option maxHeartbeats 1000000 in
theorem laws_toCall (n1 n2 : Option Bool) (c : DCall) (h4 : c.acl.length ≤ 1048576) (h5 : c.dflt.length ≤ 1048576) : Snd Try.prog 16 [fCall n1 n2 c] (rCall c) [.unk] := Runs.snd (M := M) (c := ⟨1, [1, 2, 3], [], []⟩) tok ks mixed Try.func16 (p := []) (by kernel_rfl) (by rfl) (by rfl) <| by
  simp -implicitDefEqProofs (disch := first | omega | (refine of_indep ?_; kernel_rfl) | (simp; done) | fail) [Try.f16, T2, T3, T4, T5, T9, T28, T30, T33, T35, T87, T89, M42, awp_A, AO_draw, wrap64_in, wrap8_in, tmod_nn, tdiv_nn]
  refine AC_snd (laws_toAclEntryS _ _ h4) ?_
  simp -implicitDefEqProofs (disch := first | omega | (refine of_indep ?_; kernel_rfl) | (simp; done) | fail) [Try.f16, T2, T3, T4, T5, T9, T28, T30, T33, T35, T87, T89, M42, awp_A, AO_draw, wrap64_in, wrap8_in, tmod_nn, tdiv_nn]
  refine AC_snd (laws_toAclEntryS _ _ h5) ?_
  simp -implicitDefEqProofs (disch := first | omega | (refine of_indep ?_; kernel_rfl) | (simp; done) | fail) [Try.f16, T2, T3, T4, T5, T9, T28, T30, T33, T35, T87, T89, M42, awp_A, AO_draw, wrap64_in, wrap8_in, tmod_nn, tdiv_nn]
set_option maxHeartbeats 1000000 in
theorem laws_eqCall (n1 n2 n3 n4 : Option Bool) (c d : DCall) (h4 : c.acl.length ≤ maxLen) (h5 : c.dflt.length ≤ maxLen) : Snd Try.prog 18 [fCall n1 n2 c, fCall n3 n4 d] (.bool (decide (c = d))) [.unk, .unk] := Runs.snd (M := M) (c := ⟨2, [2, 3, 4, 9, 14, 19, 24, 29, 34, 39, 44, 50, 56], [], []⟩) tok ks mixed Try.func18 (p := []) (by kernel_rfl) (by rfl) (by rfl) <| by
  simp -implicitDefEqProofs (disch := first | omega | (refine of_indep ?_; kernel_rfl) | (simp; done) | fail) [Try.f18, T2, T3, T4, T5, T9, T33, T35, T87, M43, awp_A, AO_draw, wrap64_in, wrap8_in, tmod_nn, tdiv_nn]
  iterate 8 (refine ⟨fun h => by rintro rfl; exact h rfl, fun _ => ?_⟩)
  refine AC_snd (laws_eqAclEntryS _ _ _ _ h4) ?_
  simp -implicitDefEqProofs (disch := first | omega | (refine of_indep ?_; kernel_rfl) | (simp; done) | fail) [Try.f18, T2, T3, T4, T5, T9, T33, T35, T87, M43, awp_A, AO_draw, wrap64_in, wrap8_in, tmod_nn, tdiv_nn]
  refine ⟨fun h => by rintro rfl; exact h rfl, fun _ => ?_⟩
  refine AC_snd (laws_eqAclEntryS _ _ _ _ h5) ?_
  simp -implicitDefEqProofs (disch := first | omega | (refine of_indep ?_; kernel_rfl) | (simp; done) | fail) [Try.f18, T2, T3, T4, T5, T9, T33, T35, T87, M43, awp_A, AO_draw, wrap64_in, wrap8_in, tmod_nn, tdiv_nn]
  refine ⟨fun h => by rintro rfl; exact h rfl, fun _ => ?_⟩
  cases c
  cases d
  simp_all
structure WfCall (c : DCall) : Prop where
  h1 : c.path.length ≤ maxLen
  h2 : c.other.length ≤ maxLen
  h3 : c.data.length ≤ maxLen
  h4 : c.acl.length ≤ maxLen
  h5 : c.dflt.length ≤ maxLen
set_option maxHeartbeats 1000000 in
theorem laws_FnExactIsChange (n1 n2 : Option Bool) (c : DCall) (h : WfCall c) : Snd Try.prog 4 [fCall n1 n2 c] (.bool true) [.unk] := Runs.snd (M := M) (c := ⟨1, [1, 2, 3, 4, 5, 6, 11, 21, 26], [], []⟩) tok ks mixed Try.func4 (p := []) (by kernel_rfl) (by rfl) (by rfl) <| by
  simp -implicitDefEqProofs (disch := first | omega | (refine of_indep ?_; kernel_rfl) | (simp; done) | fail) [Try.f4, T3, T4, T9, T28, T30, T33, T35, T87, T89, M14, M15, M16, M17, M18, awp_A, AO_draw, wrap64_in, wrap8_in, tmod_nn, tdiv_nn]
  refine AC_snd (laws_szCall _ _ c _ (by omega) (by omega) h.h1 h.h2 h.h3 h.h4 h.h5) ?_
  simp -implicitDefEqProofs (disch := first | omega | (refine of_indep ?_; kernel_rfl) | (simp; done) | fail) [Try.f4, T3, T4, T9, T28, T30, T33, T35, T87, T89, M14, M15, M16, M17, M18, awp_A, AO_draw, wrap64_in, wrap8_in, tmod_nn, tdiv_nn]
  intro hs
  obtain ⟨e, hs'⟩ := szR_ge hs
  have ha : c.acl.length ≤ 1048576 := by simp only [wCall] at hs'; omega
  have hd : c.dflt.length ≤ 1048576 := by simp only [wCall] at hs'; omega
  refine AC_snd (laws_toCall _ _ c ha hd) ?_
  simp -implicitDefEqProofs (disch := first | omega | (refine of_indep ?_; kernel_rfl) | (simp; done) | fail) [Try.f4, T3, T4, T9, T28, T30, T33, T35, T87, T89, M14, M15, M16, M17, M18, awp_A, AO_draw, wrap64_in, wrap8_in, tmod_nn, tdiv_nn]
  refine AC_snd (spec_IsChange _ _ c) ?_
  simp -implicitDefEqProofs (disch := first | omega | (refine of_indep ?_; kernel_rfl) | (simp; done) | fail) [Try.f4, T3, T4, T9, T28, T30, T33, T35, T87, T89, M14, M15, M16, M17, M18, awp_A, AO_draw, wrap64_in, wrap8_in, tmod_nn, tdiv_nn]
  refine AC_snd (laws_toCall _ _ c ha hd) ?_
  simp -implicitDefEqProofs (disch := first | omega | (refine of_indep ?_; kernel_rfl) | (simp; done) | fail) [Try.f4, T3, T4, T9, T28, T30, T33, T35, T87, T89, M14, M15, M16, M17, M18, awp_A, AO_draw, wrap64_in, wrap8_in, tmod_nn, tdiv_nn]
  refine AC_snd (impl_IsChange _ _ c) ?_
  simp -implicitDefEqProofs (disch := first | omega | (refine of_indep ?_; kernel_rfl) | (simp; done) | fail) [Try.f4, T3, T4, T9, T28, T30, T33, T35, T87, T89, M14, M15, M16, M17, M18, awp_A, AO_draw, wrap64_in, wrap8_in, tmod_nn, tdiv_nn]
  refine AC_snd (laws_toCall _ _ c ha hd) ?_
  simp -implicitDefEqProofs (disch := first | omega | (refine of_indep ?_; kernel_rfl) | (simp; done) | fail) [Try.f4, T3, T4, T9, T28, T30, T33, T35, T87, T89, M14, M15, M16, M17, M18, awp_A, AO_draw, wrap64_in, wrap8_in, tmod_nn, tdiv_nn]
  refine AC_snd (laws_eqCall _ _ _ _ c c h.h4 h.h5) ?_
  simp -implicitDefEqProofs (disch := first | omega | (refine of_indep ?_; kernel_rfl) | (simp; done) | fail) [Try.f4, T3, T4, T9, T28, T30, T33, T35, T87, T89, M14, M15, M16, M17, M18, awp_A, AO_draw, wrap64_in, wrap8_in, tmod_nn, tdiv_nn]
end Go.Proofs.Ytdbdofegpjfeiaa
