/- Plain law: a change of the owner keeps the content. -/
import Derived.Test.YtfkkfhafijgdaaaMC
import Derived.Test.YtfkkfhafijgdaaaM30
namespace Go.Fw
set_option linter.unusedVariables false
set_option linter.unusedSimpArgs false
theorem move_keeps {f:DFS} {i u:Int} (hs:SmF f) (hf:IsFS f) (hi:hasI f i=true) (h0:(moveP f i u).2=0) :
  contentN (moveP f i u).1.data (inodeAt (moveP f i u).1 i)=contentN f.data (inodeAt f i)∧(inodeAt (moveP f i u).1 i).uid=u∧(inodeAt (moveP f i u).1 i).kind=(inodeAt f i).kind:=by
 have hl:=hasI_lt hi
 obtain ⟨k,rfl⟩:=Int.eq_ofNat_of_zero_le hl.1
 have hk:k < f.inodes.length:=by rw [hf.ni];omega
 unfold moveP at h0 ⊢
 split
 ·rename_i h1
  rw [if_pos h1] at h0
  exact absurd (show (1:Int)=0 from h0) (by decide)
 split
 ·rename_i h1 h2
  exact ⟨rfl,h2.symm,rfl⟩
 rename_i h1 h2
 have hu:=Classical.not_not.1 h1
 rw [if_neg h1,if_neg h2] at h0
 simp only [Int.toNat_natCast] at h0 ⊢
 have hm:=moveL_keeps hs hf hi hu h2 h0
 rw [if_pos h0]
 generalize (moveL f k u).1=n at *
 generalize (moveL f k u).2.1=D at *
 rw [inodeAt_set hk,if_pos (by simp)]
 have hr:=hm.mi.rest
 refine ⟨?_,rfl,by simp only;rw [hr]⟩
 unfold contentN
 simp only
 rw [hm.text,show n.size=(inodeAt f k).size by rw [hr]]
theorem move_read {f:DFS} {i u a n:Int} (hs:SmF f) (hf:IsFS f) (hi:hasI f i=true) (h0:(moveP f i u).2=0):readB (moveP f i u).1 i a n=readB f i a n:=by
 obtain ⟨h1,h2,h3⟩:=move_keeps hs hf hi h0
 have hg:=IsFS.move hs hf hi h0
 have hh:hasI (moveP f i u).1 i=hasI f i:=by
  unfold hasI
  rw [h3]
 unfold readB
 rw [h1,hh,show isFS f=true from tr_iff.2 hf,show isFS (moveP f i u).1=true from tr_iff.2 hg]
end Go.Fw
