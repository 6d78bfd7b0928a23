/- Plain models: paths, walks, parents. -/
import Derived.Test.YtgopfdninbknpaaGreatMB
namespace Go.Fw
set_option linter.unusedVariables false
theorem nameOK_len {s : Str} (h : nameOK s = true) : s.length ≤ 12 := by
 simp only [nameOK, Bool.and_eq_true, decide_eq_true_eq] at h
 exact h.1.1.1.2
theorem SmF.of {f : DFS} (h : IsFS f) : SmF f := by
 refine ⟨by rw [h.nq]; decide, by rw [h.ni]; decide, fun n hn => ?_, by rw [h.nd]; decide⟩
 have := (h.inode n hn).len
 exact ⟨by omega, by omega, by omega⟩
def cutS : Str → Str → List Str
 | cur, [] => [cur]
 | cur, b :: l => if b = 47 then cur :: cutS [] l else cutS (cur ++ [b]) l
def splitS (s : Str) : List Str := cutS [] s
theorem cutS_at {s : Str} {a i : Nat} (hi : i < s.length) (ha : a ≤ i) : cutS ((s.drop a).take (i - a)) (s.drop i) = if s[i] = 47 then (s.drop a).take (i - a) :: cutS ((s.drop (i + 1)).take (i + 1 - (i + 1))) (s.drop (i + 1)) else cutS ((s.drop a).take (i + 1 - a)) (s.drop (i + 1)) := by
 rw [List.drop_eq_getElem_cons hi, cutS]
 congr 1
 ·rw [Nat.sub_self, List.take_zero]
 ·congr 1
  have := cut_snoc (s := s) (a := a) (w := i - a) (by omega)
  rw [show i + 1 - a = i - a + 1 by omega, this]
  congr 2
  congr 1
  omega
theorem cutS_end {s : Str} {a : Nat} : cutS ((s.drop a).take (s.length - a)) (s.drop s.length) = [s.drop a] := by
 rw [List.drop_length, cutS, List.take_of_length_le (by simp)]
def splitP (p : Str) : List Str × Bool :=
 if p = [47] then ([], true) else if p.head? = some 47 then
  (if (splitS p.tail).all nameOK = true ∧ (splitS p.tail).length ≤ 8 then (splitS p.tail, true) else ([], false)) else ([], false)
theorem splitP_len {p : Str} : (splitP p).1.length ≤ 8 := by
 unfold splitP
 split
 ·simp
 split
 ·split
  ·rename_i h; exact h.2
  ·simp
 ·simp
theorem cutS_len {l : Str} : ∀ {cur : Str}, (cutS cur l).length ≤ l.length + 1 := by
 induction l with
 | nil => intro cur; simp [cutS]
 | cons b l ih =>
  intro cur
  rw [cutS]
  split
  ·have := ih (cur := [])
   simp only [List.length_cons]
   omega
  ·have := ih (cur := cur ++ [b])
   simp only [List.length_cons]
   omega
theorem cutS_mem {l : Str} : ∀ {cur x : Str}, x ∈ cutS cur l → x.length ≤ cur.length + l.length := by
 induction l with
 | nil => intro cur x h; simp [cutS] at h; subst h; simp
 | cons b l ih =>
  intro cur x h
  rw [cutS] at h
  split at h
  ·rcases List.mem_cons.1 h with rfl | h
   ·omega
   ·have := ih h
    simp only [List.length_cons, List.length_nil] at this ⊢
    omega
  ·have := ih h
   simp only [List.length_append, List.length_cons, List.length_nil] at this ⊢
   omega
noncomputable def walkL (f : DFS) (c : DCred) : Int → List Str → Int × Int
 | i, [] => (i, 0)
 | i, s :: l => if isDirI f i = false then (0, 5) else if mayI f c i 1 = false then (0, 2) else if (findE (entriesI f i) s).2 = false then (0, 3) else walkL f c (findE (entriesI f i) s).1 l
noncomputable def walkE (f : DFS) (w : Int × Int) : Int × Int := if w.2 ≠ 0 then (0, w.2) else if hasI f w.1 then (w.1, 0) else (0, 3)
noncomputable def resolveF (f : DFS) (c : DCred) (p : Str) : Int × Int :=
 if (isFS f && isCred c) = false then (0, 1) else if (splitP p).2 = false then (0, 11) else walkE f (walkL f c 0 (splitP p).1)
noncomputable def resolveW (f : DFS) (c : DCred) (w : Int × Int) (s : Str) : Int × Str × Int :=
 if w.2 ≠ 0 then (0, [], w.2) else if isDirI f w.1 = false then (0, [], 5) else if mayI f c w.1 1 = false then (0, [], 2) else (w.1, s, 0)
noncomputable def resolveQ (f : DFS) (c : DCred) (p : Str) : Int × Str × Int :=
 if (isFS f && isCred c) = false then (0, [], 1) else if (splitP p).2 = false ∨ (splitP p).1.length = 0 then (0, [], 11)
 else resolveW f c (walkE f (walkL f c 0 ((splitP p).1.take ((splitP p).1.length - 1)))) ((splitP p).1.getD ((splitP p).1.length - 1) [])
theorem entryOf_in {c : Str} {e : DEntry} (h : entryOf c = some e) : 0 ≤ e.inode ∧ e.inode < 20 ∧ nameOK e.name = true ∧ recordOf e = c := by
 unfold entryOf at h
 split at h
 ·rename_i hc
  cases h
  have := hc.2
  simp only [goodE, Bool.and_eq_true, decide_eq_true_eq] at this
  exact ⟨this.1.1.1.2, this.1.1.2, this.1.2, this.2⟩
 ·cases h
theorem entriesI_in {f : DFS} {d : Int} {e : DEntry} (h : e ∈ entriesI f d) : 0 ≤ e.inode ∧ e.inode < 20 ∧ nameOK e.name = true := by
 unfold entriesI entriesL entriesT at h
 obtain ⟨k, -, hk⟩ := List.mem_filterMap.1 h
 have := entryOf_in hk
 exact ⟨this.1, this.2.1, this.2.2.1⟩
theorem findE_mem {s : Str} : ∀ {l : List DEntry}, (findE l s).2 = true → ∃ e ∈ l, e.name = s ∧ (findE l s).1 = e.inode
 | [], h => by simp [findE] at h
 | e :: l, h => by
  rw [findE] at h ⊢
  split
  ·rename_i he
   exact ⟨e, List.mem_cons_self .., he, rfl⟩
  ·rename_i he
   rw [if_neg he] at h
   obtain ⟨x, h1, h2, h3⟩ := findE_mem h
   exact ⟨x, List.mem_cons_of_mem _ h1, h2, h3⟩
theorem findE_in {f : DFS} {d : Int} {s : Str} (h : (findE (entriesI f d) s).2 = true) : 0 ≤ (findE (entriesI f d) s).1 ∧ (findE (entriesI f d) s).1 < 20 := by
 obtain ⟨e, h1, h2, h3⟩ := findE_mem h
 have := entriesI_in h1
 rw [h3]
 exact ⟨this.1, this.2.1⟩
theorem findE_none {s : Str} : ∀ {l : List DEntry}, (findE l s).2 = false → (findE l s).1 = 0
 | [], _ => rfl
 | e :: l, h => by
  rw [findE] at h ⊢
  split
  ·rename_i he; rw [if_pos he] at h; cases h
  ·rename_i he; rw [if_neg he] at h; exact findE_none h
theorem walkL_in {f : DFS} {c : DCred} : ∀ {l : List Str} {i : Int}, 0 ≤ i ∧ i < 20 → 0 ≤ (walkL f c i l).1 ∧ (walkL f c i l).1 < 20
 | [], i, h => h
 | s :: l, i, h => by
  rw [walkL]
  split
  ·exact ⟨by decide, by decide⟩
  split
  ·exact ⟨by decide, by decide⟩
  split
  ·exact ⟨by decide, by decide⟩
  ·rename_i h1
   exact walkL_in (findE_in (by simpa using h1))
theorem walkE_in {f : DFS} {w : Int × Int} (h : 0 ≤ w.1 ∧ w.1 < 20) : 0 ≤ (walkE f w).1 ∧ (walkE f w).1 < 20 := by
 unfold walkE
 split
 ·exact ⟨by simp, by simp⟩
 split
 ·exact h
 ·exact ⟨by simp, by simp⟩
theorem walkE_has {f : DFS} {w : Int × Int} (h : (walkE f w).2 = 0) : hasI f (walkE f w).1 = true := by
 unfold walkE at h ⊢
 split
 ·rename_i h1; rw [if_pos h1] at h; exact absurd h h1
 rename_i h1
 rw [if_neg h1] at h
 split
 ·assumption
 ·rename_i h2; rw [if_neg h2] at h; cases h
structure Keeps (f g : DFS) : Prop where
 ft : g.tick = f.tick
 fq : g.quotas = f.quotas
 nl : g.inodes.length = f.inodes.length
 at' : ∀ j, inodeAt g j = { inodeAt f j with size := (inodeAt g j).size, blocks := (inodeAt g j).blocks }
theorem Keeps.refl {f : DFS} : Keeps f f := ⟨rfl, rfl, rfl, fun _ => rfl⟩
theorem Keeps.trans {f g h : DFS} (a : Keeps f g) (b : Keeps g h) : Keeps f h := by
 refine ⟨b.ft.trans a.ft, b.fq.trans a.fq, b.nl.trans a.nl, fun j => ?_⟩
 have h1 := b.at' j
 rw [a.at' j] at h1
 exact h1
theorem Keeps.kind {f g : DFS} (a : Keeps f g) (j : Int) : (inodeAt g j).kind = (inodeAt f j).kind := by rw [a.at' j]
theorem Keeps.has {f g : DFS} (a : Keeps f g) (j : Int) : hasI g j = hasI f j := by simp only [hasI, a.kind]
theorem Keeps.dir {f g : DFS} (a : Keeps f g) (j : Int) : isDirI g j = isDirI f j := by simp only [isDirI, a.has, a.kind]
theorem inodeAt_set {f : DFS} {k : Nat} {n : DInode} {D : List Str} (h : k < f.inodes.length) (j : Int) : inodeAt ⟨f.tick, f.quotas, f.inodes.set k n, D⟩ j = if j.toNat = k then n else inodeAt f j := by
 unfold inodeAt
 simp only [List.getD_eq_getElem?_getD]
 split
 ·rename_i e
  rw [e, List.getElem?_set_self h]
  rfl
 ·rename_i e
  rw [List.getElem?_set_ne (fun h => e h.symm)]
theorem Keeps.set {f : DFS} {k : Nat} {n : DInode} {D : List Str} (h : k < f.inodes.length) (hn : n = { inodeAt f k with size := n.size, blocks := n.blocks }) : Keeps f ⟨f.tick, f.quotas, f.inodes.set k n, D⟩ := by
 refine ⟨rfl, rfl, by simp, fun j => ?_⟩
 rw [inodeAt_set h]
 split
 ·rename_i e
  have : inodeAt f j = inodeAt f k := by unfold inodeAt; rw [e]; rfl
  rw [this]
  exact hn
 ·rfl
theorem wLoop_rest {f : DFS} {i a : Nat} {s : Str} : ∀ {m k : Nat} {n : DInode} {D : List Str}, (wLoop f i a s m k n D).1 = { n with blocks := (wLoop f i a s m k n D).1.blocks }
 | 0, k, n, D => rfl
 | m + 1, k, n, D => by
  rw [wLoop]
  split
  ·rw [wLoop_rest]
   rfl
  ·rfl
theorem writeF_keeps {f : DFS} {i a : Int} {s : Str} (hi : 0 ≤ i ∧ i.toNat < f.inodes.length) : Keeps f (writeF f i a s).1 := by
 obtain ⟨k, rfl⟩ := Int.eq_ofNat_of_zero_le hi.1
 unfold writeF
 split
 ·exact .refl
 split
 ·exact .refl
 split
 ·exact .refl
 rw [Int.toNat_natCast] at hi ⊢
 refine Keeps.set hi.2 ?_
 unfold writeL
 rw [wLoop_rest]
 rfl
theorem resizeS_keeps {f : DFS} {i : Int} {Z : Nat} (hi : 0 ≤ i ∧ i.toNat < f.inodes.length) : Keeps f (resizeS f i Z) := by
 obtain ⟨k, rfl⟩ := Int.eq_ofNat_of_zero_le hi.1
 unfold resizeS
 rw [Int.toNat_natCast] at hi ⊢
 exact Keeps.set hi.2 rfl
theorem recordOf_len {e : DEntry} (h : e.name.length ≤ 12) : (recordOf e).length = 16 := by
 have h1 := putN_len (e.inode + 1) 2
 have h2 := putN_len e.name.length 1
 rw [recordOf, padTo_len, List.length_append, List.length_append]
 omega
noncomputable def addF (f : DFS) (d : Int) (s : Str) (i : Int) : DFS × Int :=
 if nameOK s = false then (f, 11) else if 0 ≤ i ∧ i < 20 then (if (findE (entriesI f d) s).2 = true then (f, 4) else writeF f d (inodeAt f d).size (recordOf ⟨s, i⟩)) else (f, 1)
def rmE : List DEntry → Str → List DEntry
 | [], _ => []
 | e :: l, s => if e.name = s then l else e :: rmE l s
theorem rmE_sub {s : Str} : ∀ {l : List DEntry}, (rmE l s).Sublist l
 | [] => List.Sublist.refl _
 | e :: l => by
  rw [rmE]
  split
  ·exact List.sublist_cons_self ..
  ·exact rmE_sub.cons_cons _
def recT (l : List DEntry) : Str := l.flatMap recordOf
theorem recT_len : ∀ {l : List DEntry}, (∀ e ∈ l, e.name.length ≤ 12) → (recT l).length = 16 * l.length
 | [], _ => rfl
 | e :: l, h => by
  have h1 := recordOf_len (h e (List.mem_cons_self ..))
  have h2 := recT_len (l := l) fun x hx => h x (List.mem_cons_of_mem _ hx)
  rw [recT, List.flatMap_cons, List.length_append, h1, ← recT, h2, List.length_cons]
  omega
theorem recT_cons {e : DEntry} {l : List DEntry} : recT (e :: l) = recordOf e ++ recT l := by simp [recT]
noncomputable def rmT (f : DFS) (d : Int) (s : Str) : Str := recT (rmE (entriesI f d) s)
theorem entriesI_len {f : DFS} {d : Int} (hf : IsFS f) (hi : 0 ≤ d ∧ d < 20) : (entriesI f d).length ≤ 16 := by
 have h1 : (contentN f.data (inodeAt f d)).length ≤ 256 := by
  obtain ⟨k, rfl⟩ := Int.eq_ofNat_of_zero_le hi.1
  have hk : k < f.inodes.length := by rw [hf.ni]; omega
  rw [inodeAt_nat hk]
  have h := contentN_size hf (List.getElem_mem hk)
  unfold contentN
  rw [List.length_take]
  omega
 unfold entriesI
 rw [entriesL_full]
 have := entriesT_len (t := contentN f.data (inodeAt f d)) (k := (contentN f.data (inodeAt f d)).length / 16)
 omega
theorem rmT_len {f : DFS} {d : Int} {s : Str} (hf : IsFS f) (hi : 0 ≤ d ∧ d < 20) : (rmT f d s).length ≤ 256 := by
 have h1 := entriesI_len hf hi
 have h2 := (rmE_sub (s := s) (l := entriesI f d)).length_le
 rw [rmT, recT_len fun e he => nameOK_len (entriesI_in (rmE_sub.subset he)).2.2]
 omega
noncomputable def removeF (f : DFS) (d : Int) (s : Str) : DFS × Int :=
 if (findE (entriesI f d) s).2 = false then (f, 3) else if (writeF f d 0 (rmT f d s)).2 = 0 then (resizeS (writeF f d 0 (rmT f d s)).1 d (rmT f d s).length, 0) else writeF f d 0 (rmT f d s)
theorem addF_keeps {f : DFS} {d i : Int} {s : Str} (hd : 0 ≤ d ∧ d.toNat < f.inodes.length) : Keeps f (addF f d s i).1 := by
 unfold addF
 split
 ·exact .refl
 split
 ·split
  ·exact .refl
  ·exact writeF_keeps hd
 ·exact .refl
theorem IsFS.add {f : DFS} {d i : Int} {s : Str} (hs : SmF f) (hf : IsFS f) (hd : hasI f d = true) (h0 : (addF f d s i).2 = 0) : IsFS (addF f d s i).1 := by
 unfold addF at h0 ⊢
 split
 ·exact hf
 rename_i h1
 rw [if_neg h1] at h0
 split
 ·rename_i h2
  rw [if_pos h2] at h0
  split
  ·exact hf
  ·rename_i h3
   rw [if_neg h3] at h0
   exact hf.write hs hd h0
 ·exact hf
theorem removeF_keeps {f : DFS} {d : Int} {s : Str} (hd : 0 ≤ d ∧ d.toNat < f.inodes.length) : Keeps f (removeF f d s).1 := by
 have hw := writeF_keeps (a := 0) (s := rmT f d s) hd
 unfold removeF
 split
 ·exact .refl
 split
 ·exact hw.trans (resizeS_keeps ⟨hd.1, by rw [hw.nl]; exact hd.2⟩)
 ·exact hw
theorem IsFS.remove {f : DFS} {d : Int} {s : Str} (hf : IsFS f) (hd : hasI f d = true) (h0 : (removeF f d s).2 = 0) : IsFS (removeF f d s).1 := by
 have hl := hasI_lt hd
 unfold removeF at h0 ⊢
 split
 ·exact hf
 rename_i h1
 rw [if_neg h1] at h0
 split
 ·rename_i h2
  have hw := writeF_keeps (f := f) (i := d) (a := 0) (s := rmT f d s) ⟨hl.1, by rw [hf.ni]; omega⟩
  exact (hf.write (SmF.of hf) hd h2).resize (by rw [hw.has]; exact hd) (rmT_len hf ⟨hl.1, hl.2.1⟩)
 ·rename_i h2
  rw [if_neg h2] at h0
  exact absurd h0 h2
structure Mod (u : Nat → DInode → DInode) : Prop where
 blocks : ∀ j n, (u j n).blocks = n.blocks
 size : ∀ j n, (u j n).size = n.size
 uid : ∀ j n, (u j n).uid = n.uid
 kind : ∀ j n, (u j n).kind = n.kind
 comm : ∀ j n s b, u j { n with size := s, blocks := b } = { u j n with size := s, blocks := b }
def modI (u : Nat → DInode → DInode) (f : DFS) : DFS := ⟨f.tick, f.quotas, f.inodes.mapIdx u, f.data⟩
theorem mapIdx_set {u : Nat → DInode → DInode} {ns : List DInode} {i : Nat} {n : DInode} : (ns.mapIdx u).set i (u i n) = (ns.set i n).mapIdx u := by
 apply List.ext_getElem?
 intro j
 rw [List.getElem?_mapIdx, List.getElem?_set, List.getElem?_set]
 by_cases h : i = j
 ·subst h
  rw [if_pos rfl, if_pos rfl]
  by_cases hl : i < ns.length
  ·rw [if_pos (by simpa using hl), if_pos hl]; rfl
  ·rw [if_neg (by simpa using hl), if_neg hl]; rfl
 ·rw [if_neg h, if_neg h, List.getElem?_mapIdx]
theorem Mod.allB {u : Nat → DInode → DInode} (h : Mod u) {ns : List DInode} : Go.Fw.allB (ns.mapIdx u) = Go.Fw.allB ns := by
 unfold Go.Fw.allB
 rw [List.flatMap_def, List.flatMap_def]
 congr 1
 apply List.ext_getElem?
 intro j
 rw [List.getElem?_map, List.getElem?_map, List.getElem?_mapIdx]
 cases ns[j]? with
 | none => rfl
 | some n => simp [h.blocks]
theorem modI_at {u : Nat → DInode → DInode} {f : DFS} {i : Int} (h : i.toNat < f.inodes.length) : inodeAt (modI u f) i = u i.toNat (inodeAt f i) := by
 unfold inodeAt modI
 simp [h]
theorem Mod.sized {u : Nat → DInode → DInode} (h : Mod u) {j : Nat} {n : DInode} {e : Int} : Go.Fw.sized (u j n) e = u j (Go.Fw.sized n e) := by
 unfold Go.Fw.sized
 rw [h.size, h.blocks]
 exact (h.comm ..).symm
theorem Mod.wN {u : Nat → DInode → DInode} (h : Mod u) {j k : Nat} {n : DInode} {b : Int} : Go.Fw.wN (u j n) k b = u j (Go.Fw.wN n k b) := by
 have h1 := h.comm j n n.size (n.blocks.set k b)
 have h2 := h.size j n
 have h3 := h.blocks j n
 unfold Go.Fw.wN
 rw [h3]
 refine Eq.trans ?_ h1.symm
 generalize u j n = m at *
 cases m
 simp only at h2
 subst h2
 rfl
theorem Mod.wBlk {u : Nat → DInode → DInode} (h : Mod u) {f : DFS} {i k : Nat} {n : DInode} : Go.Fw.wBlk (modI u f) i (u i n) k = Go.Fw.wBlk f i n k := by
 unfold Go.Fw.wBlk
 rw [h.blocks, h.uid]
 have : nextB (setI (modI u f) i (u i n)) n.uid = nextB (setI f i n) n.uid := nextB_allB rfl (by
  simp only [setI, modI]
  rw [mapIdx_set, h.allB])
 rw [this]
theorem Mod.wLoop {u : Nat → DInode → DInode} (h : Mod u) {f : DFS} {i a : Nat} {s : Str} : ∀ {m k : Nat} {n : DInode} {D : List Str}, Go.Fw.wLoop (modI u f) i a s m k (u i n) D = (u i (Go.Fw.wLoop f i a s m k n D).1, (Go.Fw.wLoop f i a s m k n D).2)
 | 0, k, n, D => rfl
 | m + 1, k, n, D => by
  rw [Go.Fw.wLoop, Go.Fw.wLoop, h.wBlk]
  split
  ·rw [h.wN, h.wLoop]
  ·rfl
theorem Mod.writeF {u : Nat → DInode → DInode} (h : Mod u) {f : DFS} {i a : Int} {s : Str} (hi : i.toNat < f.inodes.length) : Go.Fw.writeF (modI u f) i a s = (modI u (Go.Fw.writeF f i a s).1, (Go.Fw.writeF f i a s).2) := by
 unfold Go.Fw.writeF
 split
 ·rfl
 split
 ·rfl
 split
 ·rfl
 have hw : writeL (modI u f) i.toNat a.toNat s = (u i.toNat (writeL f i.toNat a.toNat s).1, (writeL f i.toNat a.toNat s).2) := by
  unfold writeL
  rw [modI_at (by rw [Int.toNat_natCast]; exact hi), Int.toNat_natCast, h.sized]
  exact h.wLoop
 rw [hw]
 simp only [modI]
 rw [mapIdx_set]
theorem Mod.content {u : Nat → DInode → DInode} (h : Mod u) {f : DFS} {i : Int} (hi : i.toNat < f.inodes.length) : contentN (modI u f).data (inodeAt (modI u f) i) = contentN f.data (inodeAt f i) := by
 rw [modI_at hi]
 unfold contentN
 rw [h.blocks, h.size]
 rfl
theorem Mod.entries {u : Nat → DInode → DInode} (h : Mod u) {f : DFS} {i : Int} (hi : i.toNat < f.inodes.length) : entriesI (modI u f) i = entriesI f i := by
 unfold entriesI
 rw [h.content hi]
theorem Mod.addF {u : Nat → DInode → DInode} (h : Mod u) {f : DFS} {d i : Int} {s : Str} (hd : d.toNat < f.inodes.length) : Go.Fw.addF (modI u f) d s i = (modI u (Go.Fw.addF f d s i).1, (Go.Fw.addF f d s i).2) := by
 unfold Go.Fw.addF
 rw [h.entries hd, modI_at hd, h.size]
 split
 ·rfl
 split
 ·split
  ·rfl
  ·exact h.writeF hd
 ·rfl
theorem Mod.has {u : Nat → DInode → DInode} (h : Mod u) {f : DFS} (hn : f.inodes.length = 20) (i : Int) : hasI (modI u f) i = hasI f i := by
 unfold hasI
 by_cases hi : 0 ≤ i ∧ i < 20
 ·rw [modI_at (by omega), h.kind]
 ·have : decide (0 ≤ i) = false ∨ decide (i < 20) = false := by
   simp only [decide_eq_false_iff_not]
   omega
  rcases this with h1 | h1 <;> simp [h1]
theorem IsFS.mod {u : Nat → DInode → DInode} (h : Mod u) {f : DFS} (hf : IsFS f) (hu : ∀ (j : Nat) (n : DInode), f.inodes[j]? = some n → IsInode n → IsInode (u j n)) : IsFS (modI u f) := by
 have hm : ∀ n ∈ f.inodes.mapIdx u, ∃ j m, f.inodes[j]? = some m ∧ n = u j m := fun n hn => by
  obtain ⟨j, hj, e⟩ := List.mem_iff_getElem.1 hn
  have hj2 : j < f.inodes.length := by simpa using hj
  exact ⟨j, f.inodes[j], List.getElem?_eq_getElem hj2, by rw [← e, List.getElem_mapIdx]⟩
 refine ⟨hf.tick, hf.nq, by simpa [modI] using hf.ni, hf.nd, hf.quota, hf.secs, fun n hn => ?_, fun n hn => ?_, ?_, fun n hn => ?_, fun k s hk hs => ?_, fun n hn => ?_⟩
 ·obtain ⟨j, m, h1, rfl⟩ := hm n hn
  exact hu j m h1 (hf.inode m (List.mem_of_getElem? h1))
 ·obtain ⟨j, m, h1, rfl⟩ := hm n hn
  intro b hb hb1
  rw [h.blocks] at hb
  rw [h.uid]
  exact hf.own m (List.mem_of_getElem? h1) b hb hb1
 ·show (allB (f.inodes.mapIdx u)).Nodup
  rw [h.allB]
  exact hf.once
 ·obtain ⟨j, m, h1, rfl⟩ := hm n hn
  intro b hb hb1
  rw [h.blocks] at hb ⊢
  rw [h.size]
  exact hf.tail m (List.mem_of_getElem? h1) b hb hb1
 ·refine hf.rest k s hk ?_
  have h1 : (k : Int) ∉ allB (f.inodes.mapIdx u) := hs
  rwa [h.allB] at h1
 ·have h1 : (f.inodes.mapIdx u)[0]? = some n := hn
  rw [List.getElem?_mapIdx] at h1
  cases h2 : f.inodes[0]? with
  | none => rw [h2] at h1; cases h1
  | some m =>
   rw [h2] at h1
   cases h1
   rw [h.kind]
   exact hf.root m h2
def setN (f : DFS) (i : Int) (n : DInode) : DFS := ⟨f.tick, f.quotas, f.inodes.set i.toNat n, f.data⟩
def touchF (f : DFS) (i : Int) : DFS := setN f i { inodeAt f i with tick := f.tick }
def unlinkS (f : DFS) (i : Int) : DFS := setN f i { inodeAt f i with links := max ((inodeAt f i).links - 1) 0 }
def freeB (f : DFS) (i : Int) (busy : List Int) : Bool := decide ((inodeAt f i).links = 0) && !decide (i ∈ busy) && !decide (i = 0)
noncomputable def unlinkF (f : DFS) (i : Int) (busy : List Int) : DFS := if freeB (unlinkS f i) i busy = true then freeF (unlinkS f i) i else unlinkS f i
noncomputable def dropF (f : DFS) (d : Int) (s : Str) (i : Int) (busy : List Int) : DFS × Int :=
 if (removeF f d s).2 = 0 then (unlinkF (touchF (removeF f d s).1 d) i busy, 0) else removeF f d s
def modAt (i : Nat) (v : DInode → DInode) (j : Nat) (n : DInode) : DInode := if j = i then v n else n
theorem setN_mod {f : DFS} {i : Int} {v : DInode → DInode} (hi : i.toNat < f.inodes.length) : setN f i (v (inodeAt f i)) = modI (modAt i.toNat v) f := by
 unfold setN modI
 congr 1
 apply List.ext_getElem?
 intro j
 rw [List.getElem?_mapIdx]
 by_cases h : i.toNat = j
 ·subst h
  rw [List.getElem?_set_self hi, List.getElem?_eq_getElem hi]
  simp [modAt, inodeAt, hi]
 ·rw [List.getElem?_set_ne h]
  cases f.inodes[j]? with
  | none => rfl
  | some n => simp [modAt, show ¬ j = i.toNat from fun e => h e.symm]
theorem modAt_mod {i : Nat} {v : DInode → DInode} (h1 : ∀ n, (v n).blocks = n.blocks) (h2 : ∀ n, (v n).size = n.size) (h3 : ∀ n, (v n).uid = n.uid) (h4 : ∀ n, (v n).kind = n.kind) (h5 : ∀ n s b, v { n with size := s, blocks := b } = { v n with size := s, blocks := b }) : Mod (modAt i v) := by
 refine ⟨fun j n => ?_, fun j n => ?_, fun j n => ?_, fun j n => ?_, fun j n s b => ?_⟩ <;> unfold modAt <;> split <;> first | rfl | exact h1 n | exact h2 n | exact h3 n | exact h4 n | exact h5 n s b
theorem IsFS.setN {f : DFS} {i : Int} {v : DInode → DInode} (hf : IsFS f) (hi : 0 ≤ i ∧ i < 20) (hm : Mod (modAt i.toNat v)) (hv : IsInode (inodeAt f i) → IsInode (v (inodeAt f i))) : IsFS (setN f i (v (inodeAt f i))) := by
 have hil : i.toNat < f.inodes.length := by rw [hf.ni]; omega
 rw [setN_mod hil]
 refine hf.mod hm fun j n hj hn => ?_
 unfold modAt
 split
 ·rename_i e
  subst e
  have : n = inodeAt f i := by
   rw [List.getElem?_eq_getElem hil] at hj
   simp [inodeAt, hil] at hj ⊢
   exact hj.symm
  rw [this] at hn ⊢
  exact hv hn
 ·exact hn
theorem touch_mod {i : Nat} {t : Int} : Mod (modAt i (fun n => { n with tick := t })) := modAt_mod (fun _ => rfl) (fun _ => rfl) (fun _ => rfl) (fun _ => rfl) (fun _ _ _ => rfl)
theorem links_mod {i : Nat} {l : Int → Int} : Mod (modAt i (fun n => { n with links := l n.links })) := modAt_mod (fun _ => rfl) (fun _ => rfl) (fun _ => rfl) (fun _ => rfl) (fun _ _ _ => rfl)
theorem IsFS.touch {f : DFS} {i : Int} (hf : IsFS f) (hi : hasI f i = true) : IsFS (touchF f i) := by
 have hl := hasI_lt hi
 refine hf.setN (v := fun n => { n with tick := f.tick }) ⟨hl.1, hl.2.1⟩ touch_mod fun _ => ?_
 have h := hasI_ok hf hi
 exact .inr ⟨h.kind, h.mode, h.uid, h.gid, h.links, h.size, hf.tick, h.blocks, h.blk, h.acl, h.dflt, h.file⟩
theorem IsFS.unlinkS {f : DFS} {i : Int} (hf : IsFS f) (hi : hasI f i = true) : IsFS (Go.Fw.unlinkS f i) := by
 have hl := hasI_lt hi
 refine hf.setN (v := fun n => { n with links := max (n.links - 1) 0 }) ⟨hl.1, hl.2.1⟩ (links_mod (l := fun l => max (l - 1) 0)) fun _ => ?_
 have h := hasI_ok hf hi
 have h1 := h.links
 exact .inr ⟨h.kind, h.mode, h.uid, h.gid, by simp only; omega, h.size, h.tick, h.blocks, h.blk, h.acl, h.dflt, h.file⟩
theorem setN_at {f : DFS} {i : Int} {n : DInode} (hi : i.toNat < f.inodes.length) (j : Int) : inodeAt (setN f i n) j = if j.toNat = i.toNat then n else inodeAt f j := inodeAt_set hi j
theorem touch_has {f : DFS} {i : Int} (hi : i.toNat < f.inodes.length) (j : Int) : hasI (touchF f i) j = hasI f j := by
 unfold hasI touchF
 rw [setN_at hi]
 split
 ·rename_i e
  have : inodeAt f j = inodeAt f i := by unfold inodeAt; rw [e]
  simp [this]
 ·rfl
theorem IsFS.unlink {f : DFS} {i : Int} {busy : List Int} (hf : IsFS f) (hi : hasI f i = true) : IsFS (unlinkF f i busy) := by
 have hl := hasI_lt hi
 unfold unlinkF
 split
 ·rename_i h
  unfold freeB at h
  simp only [Bool.and_eq_true, Bool.not_eq_true', decide_eq_false_iff_not] at h
  exact (hf.unlinkS hi).free ⟨hl.1, hl.2.1⟩ h.2
 ·exact hf.unlinkS hi
theorem IsFS.drop {f : DFS} {d i : Int} {s : Str} {busy : List Int} (hf : IsFS f) (hd : hasI f d = true) (hi : hasI f i = true) (h0 : (dropF f d s i busy).2 = 0) : IsFS (dropF f d s i busy).1 := by
 have hl := hasI_lt hd
 have hk := removeF_keeps (f := f) (d := d) (s := s) ⟨hl.1, by rw [hf.ni]; omega⟩
 unfold dropF at h0 ⊢
 split
 ·rename_i h
  have hr := hf.remove hd h
  have hn := hr.ni
  have ht := hr.touch (i := d) (by rw [hk.has]; exact hd)
  exact ht.unlink (by rw [touch_has (by rw [hn]; omega), hk.has]; exact hi)
 ·rename_i h
  rw [if_neg h] at h0
  exact absurd h0 h
end Go.Fw
