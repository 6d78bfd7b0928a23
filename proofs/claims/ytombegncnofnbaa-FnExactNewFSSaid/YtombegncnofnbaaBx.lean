/- Loops told by what they change. -/
import Derived.Test.YtombegncnofnbaaFz
namespace Go.Fw
set_option linter.unusedVariables false
def rp {α:Type} (k:Nat) (v:α):List (Nat × α)→List (Nat × α)
 | [] => [(k,v)]
 |(j,x) :: l=>if j=k then (j,v) :: l else if k < j then (k,v) :: (j,x) :: l else (j,x) :: rp k v l
def rpA {α:Type}:List (Nat × α)→List (Nat × α)→List (Nat × α)
 | [],l=>l
 |(k,v) :: c,l=>rpA c (rp k v l)
def up (ct:List (Nat × AV)) (ch:List (Nat × Root)) (s:St):St:=⟨rpA ct s.t,rpA ch s.h,s.m⟩
attribute [simp] rp rpA up
section
variable {T:Types} {M:Modes} {C:FuncId→List AV→AV→List AV→Prop} {c:Cfg} {F:Out→Prop}
theorem AL_up {ι:Type} {b:Code} {K:List Fr} {s:St} (m:ι→Nat) (ct:ι→List (Nat × AV)) (ch:ι→List (Nat × Root)) (I:ι→Prop) (x0:ι) (h0:s=up (ct x0) (ch x0) s) (hI:I x0)
  (step:∀ x n,I x→(∀ y,I y→m y < m x→AR T M C c F b K n (up (ct y) (ch y) s))→A T M C c F b (.again b n :: K) (up (ct x) (ch x) s)):AL T M C c F b K s:=
 AL_ind m (fun x=>up (ct x) (ch x) s) I x0 h0 hI step
theorem AL_for {b:Code} {K:List Fr} {s:St} (k len:Nat) (I:Nat→Prop) (h0:s=up [(k, .int .i64 0)] [] s) (hI:I 0)
  (step:∀ i n,i < len→I i→(I (i + 1)→AR T M C c F b K n (up [(k, .int .i64 (i + 1:Nat))] [] s))→A T M C c F b (.again b n :: K) (up [(k, .int .i64 (i:Nat))] [] s))
  (done:∀ n,I len→A T M C c F b (.again b n :: K) (up [(k, .int .i64 (len:Nat))] [] s)):AL T M C c F b K s:=by
 refine AL_up (fun i=>len - i) (fun i => [(k, .int .i64 (i:Nat))]) (fun _ => []) (fun i=>i≤len∧I i) 0 h0 ⟨Nat.zero_le _,hI⟩ ?_
 rintro i n ⟨hi,hx⟩ ih
 rcases Nat.lt_or_ge i len with h | h
 ·exact step i n h hx fun h'=>ih (i + 1) ⟨h,h'⟩ (by omega)
 ·obtain rfl:i=len:=by omega
  exact done n hx
theorem AL_fors {σ:Type} {b:Code} {K:List Fr} {s:St} (k len:Nat) (ct:Nat→σ→List (Nat × AV)) (ch:Nat→σ→List (Nat × Root)) (I:Nat→σ→Prop) (x0:σ) (h0:s=up ((k, .int .i64 0) :: ct 0 x0) (ch 0 x0) s) (hI:I 0 x0)
  (step:∀ i x n,i < len→I i x→(∀ y,I (i + 1) y→AR T M C c F b K n (up ((k, .int .i64 (i + 1:Nat)) :: ct (i + 1) y) (ch (i + 1) y) s))→A T M C c F b (.again b n :: K) (up ((k, .int .i64 (i:Nat)) :: ct i x) (ch i x) s))
  (done:∀ x n,I len x→A T M C c F b (.again b n :: K) (up ((k, .int .i64 (len:Nat)) :: ct len x) (ch len x) s)):AL T M C c F b K s:=by
 refine AL_up (ι:=Nat × σ) (fun x=>len - x.1) (fun x=>(k, .int .i64 (x.1:Nat)) :: ct x.1 x.2) (fun x=>ch x.1 x.2) (fun x=>x.1≤len∧I x.1 x.2) (0,x0) h0 ⟨Nat.zero_le _,hI⟩ ?_
 rintro ⟨i,x⟩ n ⟨hi,hx⟩ ih
 rcases Nat.lt_or_ge i len with h | h
 ·exact step i x n h hx fun y h'=>ih (i + 1,y) ⟨h,h'⟩ (by simp only;omega)
 ·obtain rfl:i=len:=by simp only at hi;omega
  exact done x n hx
end
def bs (l:List Bool):List AV:=l.map AV.bool
@[simp] theorem bs_len {l:List Bool}:(bs l).length=l.length:=by simp [bs]
@[simp] theorem bs_wants {k:Nat}:∀ {l:List Bool} {m:Nat},wantsCells k m (bs l) = []
 | [],m=>rfl
 | b :: l,m=>by
  show wantsCells k (m + 1) (bs l) = []
  exact bs_wants
@[simp] theorem bs_lost {t:List (Nat × AV)} {k:Nat}:∀ {l:List Bool} {m:Nat},lostCells t k m (bs l) = []
 | [],m=>rfl
 | b :: l,m=>by
  show lostCells t k (m + 1) (bs l) = []
  exact bs_lost
@[simp] theorem bs_ren {a b:Rid} {l:List Bool}:(bs l).map (ren2 a b)=bs l:=by
 simp only [bs,List.map_map]
 exact List.map_congr_left fun x _=>rfl
@[simp] theorem bs_scrub {h:Heap} {l:List Bool}:(bs l).map (scrub2 h)=bs l:=by
 simp only [bs,List.map_map]
 exact List.map_congr_left fun x _=>rfl
@[simp] theorem bs_rids {l:List Bool}:(bs l).flatMap rid2 = []:=by
 simp [bs,List.flatMap_map]
@[simp] theorem bs_roots:∀ {l:List Bool},cellRoots (bs l) = []
 | []=>rfl
 | b :: l=>by
  show cellRoots (bs l) = []
  exact bs_roots
@[simp] theorem bs_set {l:List Bool} {j:Nat} {b:Bool}:(bs l).set j (.bool b)=bs (l.set j b):=by
 simp [bs,List.map_set]
theorem bs_get {l:List Bool} {j:Nat} {b:Bool} (h:l[j]? = some b):List.take 1 (List.drop j (bs l)) = [.bool b]:=by
 obtain ⟨hj,h2⟩:=List.getElem?_eq_some_iff.1 h
 rw [List.drop_eq_getElem_cons (by simpa using hj)]
 simp [bs,h2]
theorem bs_at {l:List Bool} {j:Nat} {b:Bool} (h:l[j]? = some b):(bs l)[j]? = some (.bool b):=by
 simp [bs,h]
end Go.Fw
