import Derived.Test.YtpofjodnljeegaaP11b
namespace Go.Proofs.Ytpofjodnljeegaa
open Go.Fw
set_option linter.unusedVariables false
set_option linter.unusedSimpArgs false
theorem isDir_use {f : DFS} {i : Int} (h : isDirI f i = true) : hasI f i = true := (Bool.and_eq_true_iff.1 h).1
theorem dir_code {f : DFS} {i : Int} : (dirCode f i = 0) ↔ (isFS f = true ∧ isDirI f i = true) := by
 unfold dirCode
 by_cases h1 : isFS f = true
 ·by_cases h2 : hasI f i = true
  ·simp [h1, h2]
  ·have : isDirI f i = false := by
    cases h : isDirI f i with
    | false => rfl
    | true => exact absurd (isDir_use h) h2
   simp [h1, h2, this]
 ·simp [h1]
def orphP (n : DInode) : Bool := !decide (n.kind = 0) && decide (n.links = 0)
def orphF (k : Int) : List DInode → List Int
 | [] => []
 | n :: l => if orphP n then k :: orphF (k + 1) l else orphF (k + 1) l
def orph (ns : List DInode) : List Int := orphF 0 ns
theorem orphF_snoc {n : DInode} : ∀ {k : Int} {l : List DInode}, orphF k (l ++ [n]) = if orphP n then orphF k l ++ [k + l.length] else orphF k l
 | k, [] => by simp [orphF]
 | k, m :: l => by
  rw [List.cons_append, orphF, orphF, orphF_snoc]
  have e : k + 1 + (l.length : Int) = k + ((m :: l).length : Int) := by rw [List.length_cons]; omega
  rw [e]
  by_cases h1 : orphP m = true <;> by_cases h2 : orphP n = true <;> simp [h1, h2]
theorem orph_take {l : List DInode} {i : Nat} (h : i < l.length) : orph (l.take (i + 1)) = if orphP l[i] then orph (l.take i) ++ [(i : Int)] else orph (l.take i) := by
 rw [orph, List.take_succ_eq_append_getElem h, orphF_snoc, List.length_take, Nat.min_eq_left (Nat.le_of_lt h)]
 simp [orph]
theorem orph_len : ∀ {k : Int} {l : List DInode}, (orphF k l).length ≤ l.length
 | k, [] => by simp [orphF]
 | k, m :: l => by
  have := orph_len (k := k + 1) (l := l)
  rw [orphF]
  split <;> simp <;> omega
theorem impl_OrphansOf (n1 n2 n3 : Option Bool) (f : DFS) (hs : SmF f) : Snd Try.prog 73 [fFS n1 n2 n3 f] (.row 1 ((if isFS f then orph f.inodes else []).map ci)) [.unk] := Runs.snd (M := M) (c := ⟨1, [1, 2, 3, 4, 5, 8, 11, 12, 13, 14, 25], [], [(1, [0, 1, 2, 3, 8, 11, 12, 13, 14, 25])]⟩) tok ks mixed Try.func73 (p := []) (by kernel_rfl) (by rfl) (by rfl) <| by
 have k2 := hs.inodes
 (try simp -implicitDefEqProofs (disch := first | exact dd | fail) [Try.f73]); (repeat' ((with_reducible first | (refine Br.out ?_ ?_ <;> intro h <;> (try (have h0 := h; simp only [bH] at h))) | refine AC_snd (impl_IsFS _ _ _ f hs) ?_ | fail) <;> (try simp -implicitDefEqProofs (disch := first | exact dd | fail) [Try.f73])))
 all_goals try (simp [*]; done)
 refine AL_fors (σ := Unit) 13 f.inodes.length (fun i _ => [(3, .ref 384 none 1 0 (orph (f.inodes.take i)).length (some false))]) (fun i _ => [(384, .row 1 ((orph (f.inodes.take i)).map ci) [])]) (fun _ _ => True) () rfl trivial (fun i _ n hlt _ ih => ?_) (fun _ n _ => ?_)
 ·have hr := orph_take hlt
  have hrl := orph_len (k := 0) (l := f.inodes.take i)
  rw [List.length_take] at hrl
  have hi := ih () trivial
  simp only [orph] at hr hi hrl ⊢
  (try simp -implicitDefEqProofs (disch := first | exact dd | fail) [Try.f73, hlt, cInode]); (repeat' ((with_reducible first | (refine Br.out ?_ ?_ <;> intro h <;> (try (have h0 := h; simp only [bH] at h))) | fail) <;> (try simp -implicitDefEqProofs (disch := first | exact dd | fail) [Try.f73, hlt, cInode])))
  all_goals first
   |(rw [if_pos (by simp [orphP, *])] at hr; simp [hr, ci] at hi; exact hi)
   |(rw [if_neg (by simp [orphP, *])] at hr; simp [hr, ci] at hi; exact hi)
 ·rw [List.take_length]
  have hy : isFS f = true := by assumption
  (try simp -implicitDefEqProofs (disch := first | exact dd | fail) [Try.f73, hy]); (repeat' ((with_reducible first | (refine Br.out ?_ ?_ <;> intro h <;> (try (have h0 := h; simp only [bH] at h))) | fail) <;> (try simp -implicitDefEqProofs (disch := first | exact dd | fail) [Try.f73, hy])))
theorem spec_OrphansOf (n1 n2 n3 : Option Bool) (f : DFS) (hs : SmF f) : Snd Try.prog 71 [fFS n1 n2 n3 f] (.row 1 ((if isFS f then orph f.inodes else []).map ci)) [.unk] := Runs.snd (M := M) (c := ⟨1, [1, 2, 3, 4, 5, 9, 11, 12, 13, 14, 25], [], [(1, [0, 1, 2, 3, 9, 11, 12, 13, 14, 25])]⟩) tok ks mixed Try.func71 (p := []) (by kernel_rfl) (by rfl) (by rfl) <| by
 have k2 := hs.inodes
 (try simp -implicitDefEqProofs (disch := first | exact dd | fail) [Try.f71]); (repeat' ((with_reducible first | (refine Br.out ?_ ?_ <;> intro h <;> (try (have h0 := h; simp only [bH] at h))) | refine AC_snd (spec_IsFS _ _ _ f hs) ?_ | fail) <;> (try simp -implicitDefEqProofs (disch := first | exact dd | fail) [Try.f71])))
 all_goals try (simp [*]; done)
 refine AL_fors (σ := Unit) 13 f.inodes.length (fun i _ => [(3, .ref 384 none 1 0 (orph (f.inodes.take i)).length (some false))]) (fun i _ => [(384, .row 1 ((orph (f.inodes.take i)).map ci) [])]) (fun _ _ => True) () rfl trivial (fun i _ n hlt _ ih => ?_) (fun _ n _ => ?_)
 ·have hr := orph_take hlt
  have hrl := orph_len (k := 0) (l := f.inodes.take i)
  rw [List.length_take] at hrl
  have hi := ih () trivial
  simp only [orph] at hr hi hrl ⊢
  (try simp -implicitDefEqProofs (disch := first | exact dd | fail) [Try.f71, hlt, cInode]); (repeat' ((with_reducible first | (refine Br.out ?_ ?_ <;> intro h <;> (try (have h0 := h; simp only [bH] at h))) | fail) <;> (try simp -implicitDefEqProofs (disch := first | exact dd | fail) [Try.f71, hlt, cInode])))
  all_goals first
   |(rw [if_pos (by simp [orphP, *])] at hr; simp [hr, ci] at hi; exact hi)
   |(rw [if_neg (by simp [orphP, *])] at hr; simp [hr, ci] at hi; exact hi)
 ·rw [List.take_length]
  have hy : isFS f = true := by assumption
  (try simp -implicitDefEqProofs (disch := first | exact dd | fail) [Try.f71, hy]); (repeat' ((with_reducible first | (refine Br.out ?_ ?_ <;> intro h <;> (try (have h0 := h; simp only [bH] at h))) | fail) <;> (try simp -implicitDefEqProofs (disch := first | exact dd | fail) [Try.f71, hy])))
end Go.Proofs.Ytpofjodnljeegaa
