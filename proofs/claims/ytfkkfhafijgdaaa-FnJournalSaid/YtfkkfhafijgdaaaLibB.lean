/- A contract of the library's shelf as a contract of the framework: a text and a number in, a text out. -/
import Derived.Test.YtfkkfhafijgdaaaFz
import Derived.Below
import Derived.Lib.Repeat
import Derived.Test.YtfkkfhafijgdaaaRep
import Derived.Test.YtfkkfhafijgdaaaP05a
namespace Go.Fw
set_option linter.unusedVariables false
open Go.RowKit in
theorem snd_str_int {P:Program} {f:FuncId} {fn:Func} (hf:P.funcs[f]? = some fn) (hb:fn.body.isSome=true) (hn:(fn.name == "runtime.NumGoroutine")=false) {l r:List UInt8} {n:Int}
  (h:∀ (w:World) (s:ByteArray),s.data.toList=l→Calls P f #[.string s, .int .i64 n] w fun e w'=>e = .returned (.string ⟨r.toArray⟩)∧Below w.heap.size w w'):Snd P f [.str l, .int .i64 n] (.str r) [.unk, .unk]:=by
 refine ⟨rfl,fun w S vs F hvl hS hF1 hF2 ha => ?_⟩
 match vs,hvl with
 | [a,b],_=>
  have h0:FV w S (.str l) a:=ha 0 _ _ rfl rfl
  have h1:FV w S (.int .i64 n) b:=ha 1 _ _ rfl rfl
  cases h0 with
  | str hs=>
   cases h1
   left
   refine ⟨?_,(h w _ hs).mono fun e w' hx=>⟨_,hx.1,?_,fun _ _=>False,fun _ _ _ h=>h.elim,fun _ _ h=>h.elim,?_,?_,trivial⟩⟩
   ·cases hbb:fn.body with
    | none=>rw [hbb] at hb;cases hb
    | some c=>
     simp [callFunc,go_sem,hf,hbb]
     simpa using hn
   ·exact ⟨hx.2.os,hx.2.tape,hx.2.output,hx.2.size,fun b hb => .inl (hx.2.block b hb)⟩
   ·exact FV.str rfl
   ·intro k o u ho hu
    match k,ho with
    | 0,ho=>cases ho;trivial
    | 1,ho=>cases ho;trivial
    | k + 2,ho=>simp at ho
end Go.Fw
namespace Go.Proofs.Ytfkkfhafijgdaaa
open Go.Fw
set_option linter.unusedVariables false
set_option linter.unusedSimpArgs false
theorem strings_Repeat (l:Str) (c:Nat) (hc:c≤1048576) (hl:l.length≤1048576):Snd Try.prog 70 [.str l, .int .i64 c] (.str (Lib.repeatL l c)) [.unk, .unk]:=
 snd_str_int Try.func70 (by kernel_rfl) (by kernel_rfl) fun w s hs=>by
  have hsz:s.size=l.length:=by rw [←hs];rfl
  have hm:s.size * c≤140737488355328:=by
   rw [hsz]
   exact Nat.le_trans (Nat.mul_le_mul hl hc) (by decide)
  have:=Try.strings_Repeat s c w (by omega) hm
  rw [hs] at this
  exact this
end Go.Proofs.Ytfkkfhafijgdaaa
