/- Plain models: the cursor of the draws: which values it gives is of no matter, only their bounds. -/
import Derived.Test.YtombegncnofnbaaMA
namespace Go.Fw
set_option linter.unusedVariables false
set_option linter.unusedSimpArgs false
def iXor (a b:Int):Int:=IntKind.wrap .i64 ((BitVec.ofInt 64 a ^^^ BitVec.ofInt 64 b).toNat)
structure DCur where
 code:Str
 i:Nat
 h:Int
def hash0 (code:Str):Int:=1263 + code.length
def hashStep (h:Int) (b:UInt8):Int:=iAnd (IntKind.i64.wrap (IntKind.i64.wrap (IntKind.i64.wrap (h * 73) + b.toNat) + 7)) 1073741823
def hashL (code:Str) (n:Nat):Int:=(code.take n).foldl hashStep (hash0 code)
theorem hashL_succ {code:Str} {n:Nat} (h:n < code.length):hashL code (n + 1)=hashStep (hashL code n) code[n]:=by
 unfold hashL
 rw [List.take_succ_eq_append_getElem h,List.foldl_append]
 rfl
def newC (code:Str):DCur:=⟨code,0,hashL code (min code.length 4000)⟩
def mixH (h:Int):Int:=IntKind.i64.wrap (IntKind.i64.wrap (h * 6364136223846793005) + 1442695040888963407)
def rawX (h:Int):Int:=iAnd (iXor (h.fdiv (2 ^ 33)) (h.fdiv (2 ^ 45))) 255
theorem iAnd_255 (a:Int):0≤iAnd a 255∧iAnd a 255≤255:=by
 unfold iAnd
 have h:(BitVec.ofInt 64 a &&& BitVec.ofInt 64 255).toNat≤255:=by
  rw [BitVec.toNat_and]
  exact Nat.and_le_right
 generalize (BitVec.ofInt 64 a &&& BitVec.ofInt 64 255).toNat=n at *
 have:IntKind.i64.wrap (n:Int)=n:=by
  unfold IntKind.wrap
  simp [IntKind.signed,IntKind.bits,Int.bmod]
  omega
 omega
def byteC (c:DCur):Int × DCur:=
 if c.i < c.code.length then (iAnd (rawX (mixH c.h) + (c.code.getD c.i 0).toNat) 255,⟨c.code,c.i + 1,mixH c.h⟩) else (rawX (mixH c.h),⟨c.code,c.i,mixH c.h⟩)
theorem byteC_val (c:DCur):0≤(byteC c).1∧(byteC c).1≤255:=by
 unfold byteC
 split
 ·exact iAnd_255 _
 ·exact iAnd_255 _
structure CurOK (c:DCur):Prop where
 le:c.i≤c.code.length
theorem newC_ok (code:Str):CurOK (newC code):=⟨Nat.zero_le _⟩
theorem byteC_code (c:DCur):(byteC c).2.code=c.code:=by unfold byteC;split<;>rfl
theorem byteC_ok {c:DCur} (h:CurOK c):CurOK (byteC c).2:=by
 refine ⟨?_⟩
 unfold byteC
 split
 ·simp only;omega
 ·exact h.le
def belowC (c:DCur) (n:Int):Int × DCur:=
 if n≤0 then (0,c) else if n≤256 then ((byteC c).1 % n,(byteC c).2) else
  let x:=byteC c;let y:=byteC x.2;let z:=byteC y.2;let w:=byteC z.2
  ((x.1 * 16777216 + y.1 * 65536 + z.1 * 256 + w.1) % n,w.2)
theorem belowC_val (c:DCur) {n:Int} (h:0 < n):0≤(belowC c n).1∧(belowC c n).1 < n:=by
 unfold belowC
 rw [if_neg (by omega)]
 split
 ·exact ⟨Int.emod_nonneg _ (by omega),Int.emod_lt_of_pos _ h⟩
 ·exact ⟨Int.emod_nonneg _ (by omega),Int.emod_lt_of_pos _ h⟩
theorem belowC_code (c:DCur) (n:Int):(belowC c n).2.code=c.code:=by
 unfold belowC
 split
 ·rfl
 ·split
  ·exact byteC_code c
  ·simp only [byteC_code]
theorem belowC_ok {c:DCur} (n:Int) (h:CurOK c):CurOK (belowC c n).2:=by
 unfold belowC
 split
 ·exact h
 ·split
  ·exact byteC_ok h
  ·exact byteC_ok (byteC_ok (byteC_ok (byteC_ok h)))
def onceC (c:DCur) (n:Int):Bool × DCur:=(decide ((belowC c n).1=0),(belowC c n).2)
def pickC {α:Type} (z:α) (c:DCur) (l:List α):α × DCur:=(l.getD (belowC c l.length).1.toNat z,(belowC c l.length).2)
theorem pickC_mem {α:Type} {z:α} {c:DCur} {l:List α} (h:0 < l.length):(pickC z c l).1 ∈ l:=by
 have hb:=belowC_val c (n:=l.length) (by omega)
 have hlt:(belowC c l.length).1.toNat < l.length:=by omega
 unfold pickC
 rw [List.getD_eq_getElem?_getD,List.getElem?_eq_getElem hlt]
 exact List.getElem_mem hlt
end Go.Fw
