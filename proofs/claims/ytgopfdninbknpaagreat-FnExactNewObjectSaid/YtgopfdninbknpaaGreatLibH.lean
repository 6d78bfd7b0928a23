/- A contract of the library's shelf as a contract of the framework: a text and a byte in, a number out. -/
import Derived.Test.YtgopfdninbknpaaGreatFz
import Derived.Below
import Derived.Test.YtgopfdninbknpaaGreatRep
import Derived.Test.YtgopfdninbknpaaGreatP05a
namespace Go.Fw
set_option linter.unusedVariables false
open Go.RowKit in
theorem snd_str_byte {P:Program} {f:FuncId} {fn:Func} (hf:P.funcs[f]? = some fn) (hb:fn.body.isSome=true) (hn:(fn.name == "runtime.NumGoroutine")=false) {l:List UInt8} {c r:Int}
  (h:∀ (w:World) (s:ByteArray),s.data.toList=l→Calls P f #[.string s, .int .u8 c] w fun e w'=>e = .returned (.int .i64 r)∧Below w.heap.size w w'):Snd P f [.str l, .int .u8 c] (.int .i64 r) [.unk, .unk]:=by
 refine ⟨rfl,fun w S vs F hvl hS hF1 hF2 ha => ?_⟩
 match vs,hvl with
 | [a,b],_=>
  have h0:FV w S (.str l) a:=ha 0 _ _ rfl rfl
  have h1:FV w S (.int .u8 c) b:=ha 1 _ _ rfl rfl
  cases h0 with
  | str hs=>
   cases h1
   left
   refine ⟨?_,(h w _ hs).mono fun e w' hx=>⟨_,hx.1,?_,fun _ _=>False,fun _ _ _ h=>h.elim,fun _ _ h=>h.elim,?_,?_,trivial⟩⟩
   ·cases hbb:fn.body with
    | none=>rw [hbb] at hb;cases hb
    | some c=>
     simp [callFunc,go_sem,hf,hbb]
     simpa using hn
   ·exact ⟨hx.2.os,hx.2.tape,hx.2.output,hx.2.size,fun b hb => .inl (hx.2.block b hb)⟩
   ·exact FV.int _ _
   ·intro k o u ho hu
    match k,ho with
    | 0,ho=>cases ho;trivial
    | 1,ho=>cases ho;trivial
    | k + 2,ho=>simp at ho
end Go.Fw
namespace Go.Proofs.YtgopfdninbknpaaGreat
open Go.Fw Go.RowKit
set_option linter.unusedVariables false
set_option linter.unusedSimpArgs false
theorem strings_IndexByte (l:Str) (c:UInt8):Snd Tryz.prog 267 [.str l, .int .u8 c.toNat] (.int .i64 (Lib.indexByte l c)) [.unk, .unk]:=
 snd_str_byte Tryz.func267 (by kernel_rfl) (by kernel_rfl) fun w s hs=>by
  have:=Tryz.strings_IndexByte s c.toNat w
  rw [hs,show ((c.toNat:Int)).toNat.toUInt8=c by simp] at this
  exact this.mono fun e w' ⟨h1,h2⟩=>⟨h1,by rw [h2];exact Below.refl _ _⟩
end Go.Proofs.YtgopfdninbknpaaGreat
