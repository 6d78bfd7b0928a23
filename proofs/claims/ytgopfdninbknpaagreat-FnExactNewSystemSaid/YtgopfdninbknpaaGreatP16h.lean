import Derived.Test.YtgopfdninbknpaaGreatP16f
namespace Go.Proofs.YtgopfdninbknpaaGreat
open Go.Fw
set_option linter.unusedVariables false
set_option linter.unusedSimpArgs false
set_option maxHeartbeats 1000000
set_option maxRecDepth 8000
theorem spec_NewSystem (n1 n2 n3 n4 : Option Bool) (f : DFS) (cs : List DCred) (hs : SmF f) (hl : cs.length ≤ 1048576) (hc : ∀ c ∈ cs, c.groups.length ≤ 1048576) : Snd Tryz.prog 49 [fFS n1 n2 n3 f, .frz 3 n4 (cs.map cCred)] (rSystem (newSys (dropO f []) cs)) [.unk, .unk] := Runs.snd (M := M) (c := ⟨2, [2, 4, 5, 7, 11, 12, 13, 14, 29], [], [(1, [0, 1, 2, 4, 5, 11, 12, 13, 14, 29])]⟩) tok ks mixed Tryz.func49 (p := []) (by kernel_rfl) (by rfl) (by rfl) <| by
 have hg : SmF (dropO f []) := by
  unfold dropO
  split
  ·have hd0 : DI f f := ⟨hs, rfl, rfl, rfl, fun h => h⟩
   exact (hd0.all (busy := []) (l := orph f.inodes)).1
  ·exact hs
 have c1 : ∀ a b d, Snd Tryz.prog 127 [fFS a b d f, .frz 0 (some true) []] (rFS (dropO f [])) [.unk, .unk] := fun a b d => Snd.nil_arg (pre := [_]) (post := []) (sz := 1) (nl := none) (by simp) (spec_DropOrphans a b d none f [] hs (by simp))
 have hsys := procs_sm hg hl hc
 have c2 := fun a b d e => spec_IsSystem a b d e _ hsys
 obtain ⟨A, hA⟩ : ∃ A, A = newSys (dropO f []) cs := ⟨_, rfl⟩
 rw [← hA]
 unfold newSys at hA
 generalize dropO f [] = g at *
 obtain ⟨b, hb⟩ : ∃ b, b = isSystem ⟨g, cs.map fun c => ⟨c, [zOpen, zOpen, zOpen]⟩⟩ := ⟨_, rfl⟩
 rw [← hb] at hA c2
 (try simp -implicitDefEqProofs (disch := first | exact dd | fail) [Tryz.f49]); (repeat' ((with_reducible first | (refine Br.out ?_ ?_ <;> intro h <;> (try (have h0 := h; simp only [bH] at h))) | refine AC_snd (c1 _ _ _) ?_ | fail) <;> (try simp -implicitDefEqProofs (disch := first | exact dd | fail) [Tryz.f49])))
 refine AL_fors (σ := Unit) 13 cs.length (fun _ _ => []) (fun i _ => if i = 0 then [] else [(640, .box [.int .i64 g.tick, .ref 644 none 2 0 g.quotas.length none, .ref 646 none 10 0 g.inodes.length none, .ref 648 none 1 0 g.data.length none, .ref 650 none 4 0 i none]), (650, .row 4 (((cs.take i).map fun c => (⟨c, [zOpen, zOpen, zOpen]⟩ : DProc)).map cProc) [])]) (fun _ _ => True) () rfl trivial (fun i _ n hlt _ ih => ?_) (fun _ n _ => ?_)
 ·have ht := List.take_succ_eq_append_getElem hlt
  have hi := ih () trivial
  have hp := hc _ (List.getElem_mem hlt)
  simp only [Nat.add_eq_zero_iff, Nat.one_ne_zero, and_false, if_false, ht, List.map_append, List.map_cons, List.map_nil] at hi
  rcases i with _ | i
  ·(try simp -implicitDefEqProofs (disch := first | exact dd | fail) [Tryz.f49, hlt, cCred, cProc]); (repeat' ((with_reducible first | (refine Br.out ?_ ?_ <;> intro h <;> (try (have h0 := h; simp only [bH] at h))) | refine AC_snd (spec_l06Copy _ cs[0] hp) ?_ | fail) <;> (try simp -implicitDefEqProofs (disch := first | exact dd | fail) [Tryz.f49, hlt, cCred, cProc])))
   all_goals first | exact hi
  ·have hL : (List.map cProc (List.map (fun c => (⟨c, [zOpen, zOpen, zOpen]⟩ : DProc)) (List.take (i + 1) cs))).length = i + 1 := by simp; omega
   generalize List.map cProc (List.map (fun c => (⟨c, [zOpen, zOpen, zOpen]⟩ : DProc)) (List.take (i + 1) cs)) = G at *
   have hG : List.take (i + 1) G = G := List.take_of_length_le (by omega)
   (try simp -implicitDefEqProofs (disch := first | exact dd | fail) [Tryz.f49, hlt, hG, hL, cCred, cProc]); (repeat' ((with_reducible first | (refine Br.out ?_ ?_ <;> intro h <;> (try (have h0 := h; simp only [bH] at h))) | refine AC_snd (spec_l06Copy _ cs[i + 1] hp) ?_ | fail) <;> (try simp -implicitDefEqProofs (disch := first | exact dd | fail) [Tryz.f49, hlt, hG, hL, cCred, cProc])))
   all_goals first | (simp [cProc] at hi; exact hi)
 ·rcases Nat.eq_zero_or_pos cs.length with h0 | h0
  ·have h1 : cs = [] := List.length_eq_zero_iff.1 h0
   subst h1
   simp only [List.map_nil] at hA c2 hb hsys
   cases b with
   | true =>
    exfalso
    have := (tr_iff.1 hb.symm).np
    simp at this
   | false =>
    simp only [Bool.false_eq_true, if_false] at hA
    subst hA
    (try simp -implicitDefEqProofs (disch := first | exact dd | fail) [Tryz.f49, zSys]); (repeat' ((with_reducible first | (refine Br.out ?_ ?_ <;> intro h <;> (try (have h0 := h; simp only [bH] at h))) | refine AC_snd (c2 _ _ _ _) ?_ | fail) <;> (try simp -implicitDefEqProofs (disch := first | exact dd | fail) [Tryz.f49, zSys])))
  ·have h1 : ¬ cs.length = 0 := by omega
   have h2 : ¬ cs = [] := fun e => h1 (by rw [e]; rfl)
   simp only [h1, if_false, List.take_length]
   have hPl : (cs.map fun c => (⟨c, [zOpen, zOpen, zOpen]⟩ : DProc)).length = cs.length := by simp
   generalize (cs.map fun c => (⟨c, [zOpen, zOpen, zOpen]⟩ : DProc)) = P at *
   have hPt : List.take cs.length (P.map cProc) = P.map cProc := List.take_of_length_le (by simp; omega)
   have hP0 : ¬ P.length = 0 := by omega
   cases b with
   | true =>
    simp only [if_true] at hA
    subst hA
    (try simp -implicitDefEqProofs (disch := first | exact dd | fail) [Tryz.f49, h2, hPl, hPt]); (repeat' ((with_reducible first | (refine Br.out ?_ ?_ <;> intro h <;> (try (have h0 := h; simp only [bH] at h))) | refine AC_snd (c2 _ _ _ _) ?_ | fail) <;> (try simp -implicitDefEqProofs (disch := first | exact dd | fail) [Tryz.f49, h2, hPl, hPt])))
   | false =>
    simp only [Bool.false_eq_true, if_false] at hA
    subst hA
    (try simp -implicitDefEqProofs (disch := first | exact dd | fail) [Tryz.f49, h2, hPl, hPt, zSys]); (repeat' ((with_reducible first | (refine Br.out ?_ ?_ <;> intro h <;> (try (have h0 := h; simp only [bH] at h))) | refine AC_snd (c2 _ _ _ _) ?_ | fail) <;> (try simp -implicitDefEqProofs (disch := first | exact dd | fail) [Tryz.f49, h2, hPl, hPt, zSys])))
end Go.Proofs.YtgopfdninbknpaaGreat
