import Derived.Test.YtiafmpcmmohdkaaGreatP14l
import Derived.Test.YtiafmpcmmohdkaaGreatLibI
import Derived.Test.YtiafmpcmmohdkaaGreatBx
namespace Go.Proofs.YtiafmpcmmohdkaaGreat
open Go.Fw
set_option linter.unusedVariables false
set_option linter.unusedSimpArgs false
set_option maxHeartbeats 4000000
set_option maxRecDepth 8000
def joinT (l : List Str) : Str := l.flatMap (fun s => 47 :: s)
def joinP (l : List Str) : Str := if l.length = 0 then [47] else joinT l
theorem joinT_take {l : List Str} {j : Nat} (h : j < l.length) : joinT (l.take (j + 1)) = joinT (l.take j) ++ 47 :: l[j] := by
 rw [List.take_succ_eq_append_getElem h, joinT, List.flatMap_append]
 simp [joinT]
theorem joinT_len {l : List Str} {j : Nat} : (joinT (l.take j)).length ≤ (joinT l).length := by
 have h : joinT l = joinT (l.take j) ++ joinT (l.drop j) := by
  unfold joinT
  rw [← List.flatMap_append, List.take_append_drop]
 rw [h, List.length_append]
 omega
theorem join_slash : ∀ {x : Str} {l : List Str}, 47 :: Lib.join (x :: l) [47] = joinT (x :: l)
 | x, [] => by simp [Lib.join, joinT, List.intercalate]
 | x, y :: l => by
  have ih := join_slash (x := y) (l := l)
  have h1 : Lib.join (x :: y :: l) [47] = x ++ 47 :: Lib.join (y :: l) [47] := by
   simp [Lib.join, List.intercalate, List.intersperse]
  rw [h1, ih]
  simp [joinT]
theorem impl_Join (nl : Option Bool) (xs : List Str) (l : Str) (h : (Lib.join xs l).length ≤ 1048576) (hx : xs.length ≤ 1048576) : Snd Tryz.prog 127 [.frz 1 nl (xs.map cs), .str l] (.str (Lib.join xs l)) [.unk, .unk] := Runs.snd (M := M) (c := ⟨2, [4], [], []⟩) tok ks mixed Tryz.func127 (p := []) (by kernel_rfl) (by rfl) (by rfl) <| by
 (try simp -implicitDefEqProofs (disch := first | exact dd | fail) [Tryz.f127]); (repeat' ((with_reducible first | (refine Br.out ?_ ?_ <;> intro h <;> (try (have h0 := h; simp only [bH] at h))) | refine AC_snd (strings_Join _ xs l h hx) ?_ | fail) <;> (try simp -implicitDefEqProofs (disch := first | exact dd | fail) [Tryz.f127])))
theorem impl_JoinPath (nl : Option Bool) (xs : List Str) (h : (joinT xs).length ≤ 1048576) (hx : xs.length ≤ 1048576) : Snd Tryz.prog 64 [.frz 1 nl (xs.map cs)] (.str (joinP xs)) [.unk] := Runs.snd (M := M) (c := ⟨1, [2, 5], [], []⟩) tok ks mixed Tryz.func64 (p := []) (by kernel_rfl) (by rfl) (by rfl) <| by
 unfold joinP
 cases xs with
 | nil =>
  (try simp -implicitDefEqProofs (disch := first | exact dd | fail) [Tryz.f64]); (repeat' ((with_reducible first | (refine Br.out ?_ ?_ <;> intro h <;> (try (have h0 := h; simp only [bH] at h))) | fail) <;> (try simp -implicitDefEqProofs (disch := first | exact dd | fail) [Tryz.f64])))
 | cons x l =>
  have hj := join_slash (x := x) (l := l)
  rw [← hj, List.length_cons] at h
  have hc := fun n => impl_Join n (x :: l) [47] (by omega) hx
  rw [if_neg (by simp), ← hj]
  generalize Lib.join (x :: l) [47] = J at *
  generalize hX : x :: l = X at *
  have hX0 : ¬ X.length = 0 := by rw [← hX]; simp
  have hle : 1 + J.length ≤ 1073741824 := by omega
  (try simp -implicitDefEqProofs (disch := first | exact dd | fail) [Tryz.f64, hX0, hle]); (repeat' ((with_reducible first | (refine Br.out ?_ ?_ <;> intro h <;> (try (have h0 := h; simp only [bH] at h))) | refine AC_snd (hc _) ?_ | fail) <;> (try simp -implicitDefEqProofs (disch := first | exact dd | fail) [Tryz.f64, hX0, hle])))
theorem spec_JoinPath (nl : Option Bool) (xs : List Str) (h : (joinT xs).length ≤ 1048576) (hx : xs.length ≤ 1048576) : Snd Tryz.prog 62 [.frz 1 nl (xs.map cs)] (.str (joinP xs)) [.unk] := Runs.snd (M := M) (c := ⟨1, [2, 3, 5, 6, 7, 8, 9, 19], [], [(1, [0, 2, 3, 6, 7, 8, 9, 19])]⟩) tok ks mixed Tryz.func62 (p := []) (by kernel_rfl) (by rfl) (by rfl) <| by
 obtain ⟨R, hR⟩ : ∃ R, R = joinP xs := ⟨_, rfl⟩
 rw [← hR]
 unfold joinP at hR
 (try simp -implicitDefEqProofs (disch := first | exact dd | fail) [Tryz.f62]); (repeat' ((with_reducible first | (refine Br.out ?_ ?_ <;> intro h <;> (try (have h0 := h; simp only [bH] at h))) | fail) <;> (try simp -implicitDefEqProofs (disch := first | exact dd | fail) [Tryz.f62])))
 refine AL_fors (σ := Unit) 8 xs.length (fun j _ => [(3, .str (joinT (xs.take j)))]) (fun _ _ => []) (fun _ _ => True) () rfl trivial (fun j _ n hlt _ ih => ?_) (fun _ n _ => ?_)
 ·have hj := ih () trivial
  rw [joinT_take hlt] at hj
  have hl := joinT_len (l := xs) (j := j + 1)
  rw [joinT_take hlt, List.length_append, List.length_cons] at hl
  generalize joinT (xs.take j) = T at *
  have h1 : T.length + 1 ≤ 1073741824 := by omega
  have h2 : (T ++ [47]).length + xs[j].length ≤ 1073741824 := by simp; omega
  have h3 : T.length + 1 + xs[j].length ≤ 1073741824 := by omega
  (try simp -implicitDefEqProofs (disch := first | exact dd | fail) [Tryz.f62, hlt, h1, h2, h3]); (repeat' ((with_reducible first | (refine Br.out ?_ ?_ <;> intro h <;> (try (have h0 := h; simp only [bH] at h))) | fail) <;> (try simp -implicitDefEqProofs (disch := first | exact dd | fail) [Tryz.f62, hlt, h1, h2, h3])))
  all_goals first | exact hj | (simpa using hj)
 ·rw [List.take_length]
  by_cases h0 : xs.length = 0
  ·rw [if_pos h0] at hR
   (try simp -implicitDefEqProofs (disch := first | exact dd | fail) [Tryz.f62, h0, hR]); (repeat' ((with_reducible first | (refine Br.out ?_ ?_ <;> intro h <;> (try (have h0 := h; simp only [bH] at h))) | fail) <;> (try simp -implicitDefEqProofs (disch := first | exact dd | fail) [Tryz.f62, h0, hR])))
  ·rw [if_neg h0] at hR
   (try simp -implicitDefEqProofs (disch := first | exact dd | fail) [Tryz.f62, h0, hR]); (repeat' ((with_reducible first | (refine Br.out ?_ ?_ <;> intro h <;> (try (have h0 := h; simp only [bH] at h))) | fail) <;> (try simp -implicitDefEqProofs (disch := first | exact dd | fail) [Tryz.f62, h0, hR])))
theorem pathN_small {par : Par} (hp : ∀ e, (par e).2.1.length ≤ 12) : ∀ {k : Nat} {i : Int} {ns : List Str}, (∀ s ∈ ns, s.length ≤ 12) → (∀ s ∈ (pathN par k i ns).1, s.length ≤ 12) ∧ (pathN par k i ns).1.length ≤ ns.length + k := by
 intro k
 induction k with
 | zero =>
  intro i ns h
  unfold pathN
  split
  ·exact ⟨h, by simp⟩
  split
  ·simp
  ·simp
 | succ k ih =>
  intro i ns h
  unfold pathN
  split
  ·exact ⟨h, by simp only; omega⟩
  split
  ·simp
  ·have := ih (i := (par i).1) (ns := (par i).2.1 :: ns) (fun s hs => by
    rcases List.mem_cons.1 hs with rfl | hs
    ·exact hp i
    ·exact h s hs)
   refine ⟨this.1, ?_⟩
   have h2 := this.2
   rw [List.length_cons] at h2
   show (pathN par k (par i).1 ((par i).2.1 :: ns)).1.length ≤ _
   omega
theorem joinT_bound : ∀ {l : List Str}, (∀ s ∈ l, s.length ≤ 12) → (joinT l).length ≤ 13 * l.length
 | [], _ => by simp [joinT]
 | x :: l, h => by
  have h1 := h x (List.mem_cons_self ..)
  have h2 := joinT_bound (l := l) fun s hs => h s (List.mem_cons_of_mem _ hs)
  rw [joinT, List.flatMap_cons, List.length_append, ← joinT, List.length_cons, List.length_cons]
  omega
noncomputable def pathO (f : DFS) (i : Int) : Str × Bool := if isFS f = true ∧ (pathN (parentI f) 8 i []).2 = true then (joinP (pathN (parentI f) 8 i []).1, true) else ([], false)
theorem impl_path (n1 n2 n3 : Option Bool) (f : DFS) (i : Int) (hf : IsFS f) : Snd Tryz.prog 63 [pFS n1 n2 n3 f, .int .i64 i] (.tup [.row 1 ((pathN (parentI f) 8 i []).1.map cs), .bool (pathN (parentI f) 8 i []).2]) [.unk, .unk] := Runs.snd (M := M) (c := ⟨2, [4, 5, 6, 7, 8, 9, 12, 26], [], [(1, [0, 1, 4, 5, 6, 12, 26])]⟩) tok ks mixed Tryz.func63 (p := []) (by kernel_rfl) (by rfl) (by rfl) <| by
 obtain ⟨R, hR⟩ : ∃ R, R = pathN (parentI f) 8 i [] := ⟨_, rfl⟩
 rw [← hR]
 (try simp -implicitDefEqProofs (disch := first | exact dd | fail) [Tryz.f63]); (repeat' ((with_reducible first | (refine Br.out ?_ ?_ <;> intro h <;> (try (have h0 := h; simp only [bH] at h))) | fail) <;> (try simp -implicitDefEqProofs (disch := first | exact dd | fail) [Tryz.f63])))
 refine AL_up (ι := Nat × Int × List Str) (fun y => y.1) (fun y => [(1, .int .i64 y.2.1), (6, .ref 768 none 1 0 y.2.2.length (some false))]) (fun y => [(768, .row 1 (y.2.2.map cs) [])]) (fun y => R = pathN (parentI f) y.1 y.2.1 y.2.2 ∧ y.2.2.length + y.1 = 8) (8, i, []) rfl ⟨hR, rfl⟩ ?_
 rintro ⟨k, e, ns⟩ n ⟨he, hl⟩ ih
 simp only at he hl ⊢
 have ht := takeM (f := cs) (show ns.length = ns.length from rfl)
 by_cases h0 : e = 0
 ·subst h0
  rw [pathN_zero] at he
  subst he
  (try simp -implicitDefEqProofs (disch := first | exact dd | fail) [Tryz.f63, ht]); (repeat' ((with_reducible first | (refine Br.out ?_ ?_ <;> intro h <;> (try (have h0 := h; simp only [bH] at h))) | fail) <;> (try simp -implicitDefEqProofs (disch := first | exact dd | fail) [Tryz.f63, ht])))
 have c1 := fun a b c => impl_parent a b c f e hf
 by_cases h1 : (parentI f e).2.2 = true
 ·cases k with
  | zero =>
   rw [pathN_end h0] at he
   subst he
   have h8 : ns.length = 8 := by omega
   (try simp -implicitDefEqProofs (disch := first | exact dd | fail) [Tryz.f63, h0, h1, h8]); (repeat' ((with_reducible first | (refine Br.out ?_ ?_ <;> intro h <;> (try (have h0 := h; simp only [bH] at h))) | refine AC_snd (c1 _ _ _) ?_ | fail) <;> (try simp -implicitDefEqProofs (disch := first | exact dd | fail) [Tryz.f63, h0, h1, h8])))
  | succ k =>
   rw [pathN_succ h0 h1] at he
   have hj := ih (k, (parentI f e).1, (parentI f e).2.1 :: ns) ⟨he, by simp only [List.length_cons]; omega⟩ (by simp only; omega)
   have h8 : ¬ ns.length = 8 := by omega
   have h8' : ¬ (ns.length : Int) = 8 := by omega
   simp only [List.map_cons, cs, List.length_cons] at hj
   (try simp -implicitDefEqProofs (disch := first | exact dd | fail) [Tryz.f63, h0, h1, h8, h8', ht]); (repeat' ((with_reducible first | (refine Br.out ?_ ?_ <;> intro h <;> (try (have h0 := h; simp only [bH] at h))) | refine AC_snd (c1 _ _ _) ?_ | fail) <;> (try simp -implicitDefEqProofs (disch := first | exact dd | fail) [Tryz.f63, h0, h1, h8, h8', ht])))
   all_goals first | exact hj
 ·have h1' : (parentI f e).2.2 = false := by simpa using h1
  rw [pathN_no h0 h1'] at he
  subst he
  (try simp -implicitDefEqProofs (disch := first | exact dd | fail) [Tryz.f63, h0, h1']); (repeat' ((with_reducible first | (refine Br.out ?_ ?_ <;> intro h <;> (try (have h0 := h; simp only [bH] at h))) | refine AC_snd (c1 _ _ _) ?_ | fail) <;> (try simp -implicitDefEqProofs (disch := first | exact dd | fail) [Tryz.f63, h0, h1'])))
theorem path_small {f : DFS} {i : Int} : (pathN (parentI f) 8 i []).1.length ≤ 8 ∧ (joinT (pathN (parentI f) 8 i []).1).length ≤ 104 := by
 have h := pathN_small (par := parentI f) (fun e => parentL_len) (k := 8) (i := i) (ns := []) (by simp)
 have h2 := joinT_bound h.1
 have h3 := h.2
 simp only [List.length_nil] at h3
 exact ⟨by omega, by omega⟩
theorem impl_PathOf (n1 n2 n3 : Option Bool) (f : DFS) (i : Int) (hs : SmF f) : Snd Tryz.prog 19 [fFS n1 n2 n3 f, .int .i64 i] (.tup [.str (pathO f i).1, .bool (pathO f i).2]) [.unk, .unk] := Runs.snd (M := M) (c := ⟨2, [2, 4, 5, 6, 7, 10, 17], [], []⟩) tok ks mixed Tryz.func19 (p := []) (by kernel_rfl) (by rfl) (by rfl) <| by
 have hsm := path_small (f := f) (i := i)
 by_cases h0 : isFS f = true
 ·have hf := tr_iff.1 h0
  have c1 := fun a b c => impl_path a b c f i hf
  have c2 := fun n => impl_JoinPath n (pathN (parentI f) 8 i []).1 (by omega) (by omega)
  unfold pathO
  generalize pathN (parentI f) 8 i [] = r at *
  obtain ⟨L, y⟩ := r
  cases y with
  | true =>
   (try simp -implicitDefEqProofs (disch := first | exact dd | fail) [Tryz.f19, h0]); (repeat' ((with_reducible first | (refine Br.out ?_ ?_ <;> intro h <;> (try (have h0 := h; simp only [bH] at h))) | refine AC_snd (impl_IsFS _ _ _ f hs) ?_ | refine AC_snd (c1 _ _ _) ?_ | refine AC_snd (c2 _) ?_ | fail) <;> (try simp -implicitDefEqProofs (disch := first | exact dd | fail) [Tryz.f19, h0])))
  | false =>
   (try simp -implicitDefEqProofs (disch := first | exact dd | fail) [Tryz.f19, h0]); (repeat' ((with_reducible first | (refine Br.out ?_ ?_ <;> intro h <;> (try (have h0 := h; simp only [bH] at h))) | refine AC_snd (impl_IsFS _ _ _ f hs) ?_ | refine AC_snd (c1 _ _ _) ?_ | fail) <;> (try simp -implicitDefEqProofs (disch := first | exact dd | fail) [Tryz.f19, h0])))
 ·have h0' : isFS f = false := by simpa using h0
  unfold pathO
  rw [if_neg fun h => h0 h.1]
  (try simp -implicitDefEqProofs (disch := first | exact dd | fail) [Tryz.f19, h0']); (repeat' ((with_reducible first | (refine Br.out ?_ ?_ <;> intro h <;> (try (have h0 := h; simp only [bH] at h))) | refine AC_snd (impl_IsFS _ _ _ f hs) ?_ | fail) <;> (try simp -implicitDefEqProofs (disch := first | exact dd | fail) [Tryz.f19, h0'])))
theorem spec_PathOf (n1 n2 n3 : Option Bool) (f : DFS) (i : Int) (hs : SmF f) : Snd Tryz.prog 18 [fFS n1 n2 n3 f, .int .i64 i] (.tup [.str (pathO f i).1, .bool (pathO f i).2]) [.unk, .unk] := Runs.snd (M := M) (c := ⟨2, [2, 4, 5, 6, 7, 8, 9, 10, 13, 16, 30], [], [(1, [0, 1, 2, 4, 5, 6, 13, 16, 30])]⟩) tok ks mixed Tryz.func18 (p := []) (by kernel_rfl) (by rfl) (by rfl) <| by
 have hsm := path_small (f := f) (i := i)
 by_cases h0 : isFS f = true
 rotate_left
 ·have h0' : isFS f = false := by simpa using h0
  unfold pathO
  rw [if_neg fun h => h0 h.1]
  (try simp -implicitDefEqProofs (disch := first | exact dd | fail) [Tryz.f18, h0']); (repeat' ((with_reducible first | (refine Br.out ?_ ?_ <;> intro h <;> (try (have h0 := h; simp only [bH] at h))) | refine AC_snd (spec_IsFS _ _ _ f hs) ?_ | fail) <;> (try simp -implicitDefEqProofs (disch := first | exact dd | fail) [Tryz.f18, h0'])))
 have hf := tr_iff.1 h0
 obtain ⟨R, hR⟩ : ∃ R, R = pathN (parentI f) 8 i [] := ⟨_, rfl⟩
 obtain ⟨A, hA⟩ : ∃ A, A = pathO f i := ⟨_, rfl⟩
 rw [← hA]
 unfold pathO at hA
 rw [← hR] at hA hsm
 (try simp -implicitDefEqProofs (disch := first | exact dd | fail) [Tryz.f18, h0]); (repeat' ((with_reducible first | (refine Br.out ?_ ?_ <;> intro h <;> (try (have h0 := h; simp only [bH] at h))) | refine AC_snd (spec_IsFS _ _ _ f hs) ?_ | fail) <;> (try simp -implicitDefEqProofs (disch := first | exact dd | fail) [Tryz.f18, h0])))
 refine AL_up (ι := Nat × Int × List Str) (fun y => y.1) (fun y => [(1, .int .i64 y.2.1), (6, .ref 768 none 1 0 y.2.2.length (some false))]) (fun y => [(768, .row 1 (y.2.2.map cs) [])]) (fun y => R = pathN (parentI f) y.1 y.2.1 y.2.2 ∧ y.2.2.length + y.1 = 8) (8, i, []) rfl ⟨hR, rfl⟩ ?_
 rintro ⟨k, e, ns⟩ n ⟨he, hl⟩ ih
 simp only at he hl ⊢
 have ht := takeM (f := cs) (show ns.length = ns.length from rfl)
 by_cases he0 : e = 0
 ·subst he0
  rw [pathN_zero] at he
  subst he
  have c2 := fun m => spec_JoinPath m ns (by simp only at hsm; omega) (by omega)
  rw [if_pos ⟨h0, rfl⟩] at hA
  subst hA
  (try simp -implicitDefEqProofs (disch := first | exact dd | fail) [Tryz.f18, ht]); (repeat' ((with_reducible first | (refine Br.out ?_ ?_ <;> intro h <;> (try (have h0 := h; simp only [bH] at h))) | refine AC_snd (c2 _) ?_ | fail) <;> (try simp -implicitDefEqProofs (disch := first | exact dd | fail) [Tryz.f18, ht])))
 have c1 := fun a b c => spec_l10Parent a b c f e hf
 by_cases h1 : (parentI f e).2.2 = true
 ·cases k with
  | zero =>
   rw [pathN_end he0] at he
   subst he
   rw [if_neg (by simp)] at hA
   subst hA
   have h8 : ns.length = 8 := by omega
   (try simp -implicitDefEqProofs (disch := first | exact dd | fail) [Tryz.f18, he0, h1, h8]); (repeat' ((with_reducible first | (refine Br.out ?_ ?_ <;> intro h <;> (try (have h0 := h; simp only [bH] at h))) | refine AC_snd (c1 _ _ _) ?_ | fail) <;> (try simp -implicitDefEqProofs (disch := first | exact dd | fail) [Tryz.f18, he0, h1, h8])))
  | succ k =>
   rw [pathN_succ he0 h1] at he
   have hj := ih (k, (parentI f e).1, (parentI f e).2.1 :: ns) ⟨he, by simp only [List.length_cons]; omega⟩ (by simp only; omega)
   have h8 : ¬ ns.length = 8 := by omega
   have h8' : ¬ (ns.length : Int) = 8 := by omega
   simp only [List.map_cons, cs, List.length_cons] at hj
   (try simp -implicitDefEqProofs (disch := first | exact dd | fail) [Tryz.f18, he0, h1, h8, h8', ht]); (repeat' ((with_reducible first | (refine Br.out ?_ ?_ <;> intro h <;> (try (have h0 := h; simp only [bH] at h))) | refine AC_snd (c1 _ _ _) ?_ | fail) <;> (try simp -implicitDefEqProofs (disch := first | exact dd | fail) [Tryz.f18, he0, h1, h8, h8', ht])))
   all_goals first | exact hj
 ·have h1' : (parentI f e).2.2 = false := by simpa using h1
  rw [pathN_no he0 h1'] at he
  subst he
  rw [if_neg (by simp)] at hA
  subst hA
  (try simp -implicitDefEqProofs (disch := first | exact dd | fail) [Tryz.f18, he0, h1']); (repeat' ((with_reducible first | (refine Br.out ?_ ?_ <;> intro h <;> (try (have h0 := h; simp only [bH] at h))) | refine AC_snd (c1 _ _ _) ?_ | fail) <;> (try simp -implicitDefEqProofs (disch := first | exact dd | fail) [Tryz.f18, he0, h1'])))
end Go.Proofs.YtiafmpcmmohdkaaGreat
