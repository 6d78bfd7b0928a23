import Derived.Test.YtpofjodnljeegaaGreatP05b
import Derived.Test.YtpofjodnljeegaaGreatM13
namespace Go.Proofs.YtpofjodnljeegaaGreat
open Go.Fw
set_option linter.unusedVariables false
set_option linter.unusedSimpArgs false
set_option maxHeartbeats 4000000 in
set_option maxRecDepth 8000 in
theorem spec_GetNumber (s : Str) (a w : Int) (hs : s.length ≤ 1048576) : Snd Tryz.prog 53 [.str s, .int .i64 a, .int .i64 w] (.tup [.int .i64 (getN s a w).1, .bool (getN s a w).2]) [.unk, .unk, .unk] := Runs.snd (M := M) (c := ⟨3, [6, 7, 8, 9, 24, 27], [], []⟩) tok ks mixed Tryz.func53 (p := []) (by kernel_rfl) (by rfl) (by rfl) <| by
 (try simp -implicitDefEqProofs (disch := first | exact dd | fail) [Tryz.f53]); (repeat' ((with_reducible first | (refine Br.out ?_ ?_ <;> intro h <;> (try (have h0 := h; simp only [bH] at h))) | refine AC_snd (spec_l01In _ _ _) ?_ | fail) <;> (try simp -implicitDefEqProofs (disch := first | exact dd | fail) [Tryz.f53])))
 all_goals try (rw [getN, if_neg (by omega)]; simp; done)
 obtain ⟨A, hA⟩ := Int.eq_ofNat_of_zero_le (by omega : 0 ≤ a)
 obtain ⟨W, hW⟩ := Int.eq_ofNat_of_zero_le (by omega : 0 ≤ w)
 have hv : getN s a w = (getV ((s.drop A).take W), true) := by
  rw [getN, if_pos (by omega), hA, hW]
  rfl
 rw [hv]
 subst hA hW
 refine AL_fors (σ := Unit) 9 W (fun i _ => [(8, .int .i64 (getV ((s.drop A).take i)))]) (fun _ _ => []) (fun _ _ => True) () (by simp [getV]) trivial (fun i _ n hlt _ ih => ?_) (fun _ n _ => ?_)
 ·have hix : A + i < s.length := by omega
  have hc := cut_snoc hix
  have hb := getV_bound (l := (s.drop A).take i) (by rw [List.length_take]; omega)
  have hi := ih () trivial
  simp only [hc, getV_snoc] at hi
  have hub : (s[A + i].toNat : Int) < 256 := by exact_mod_cast s[A + i].toNat_lt
  generalize getV ((s.drop A).take i) = V at *
  have hcast : ((A : Int) + (i : Int)).toNat = A + i := by omega
  have hw1 : IntKind.i64.wrap (s[A + i].toNat : Int) = s[A + i].toNat := wrap64_in (by omega) (by omega)
  have hw2 : IntKind.i64.wrap (256 * V + (s[A + i].toNat : Int)) = V * 256 + s[A + i].toNat := by rw [wrap64_in (by omega) (by omega)]; omega
  (try simp -implicitDefEqProofs (disch := first | exact dd | fail) [Tryz.f53, hix]); (repeat' ((with_reducible first | (refine Br.out ?_ ?_ <;> intro h <;> (try (have h0 := h; simp only [bH] at h))) | fail) <;> (try simp -implicitDefEqProofs (disch := first | exact dd | fail) [Tryz.f53, hix])))
  simp only [hcast, hw1, hw2]
  exact hi
 ·(try simp -implicitDefEqProofs (disch := first | exact dd | fail) [Tryz.f53]); (repeat' ((with_reducible first | (refine Br.out ?_ ?_ <;> intro h <;> (try (have h0 := h; simp only [bH] at h))) | fail) <;> (try simp -implicitDefEqProofs (disch := first | exact dd | fail) [Tryz.f53])))
end Go.Proofs.YtpofjodnljeegaaGreat
