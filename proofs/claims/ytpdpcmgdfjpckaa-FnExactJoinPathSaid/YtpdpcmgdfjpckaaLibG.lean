/- A contract of the library's shelf as a contract of the framework: texts and a text in, a text out. -/
import Derived.Test.YtpdpcmgdfjpckaaDat
import Derived.Below
namespace Go.Fw
set_option linter.unusedVariables false
open Go.RowKit in
theorem snd_strs_str {P:Program} {f:FuncId} {fn:Func} (hf:P.funcs[f]? = some fn) (hb:fn.body.isSome=true) (hn:(fn.name == "runtime.NumGoroutine")=false) {nl:Option Bool} {xs:List (List UInt8)} {l r:List UInt8}
  (h0:xs = []→∀ (w:World) (a:Option Addr) (c:Nat) (s:ByteArray),s.data.toList=l→Calls P f #[.slice a 0 c, .string s] w fun e w'=>e = .returned (.string ⟨r.toArray⟩)∧Below w.heap.size w w')
  (h1:xs ≠ []→∀ (w:World) (bk o c:Nat) (ys:List ByteArray) (s:ByteArray),s.data.toList=l→ys.map (·.data.toList)=xs→(∀ (j:Nat) x,ys[j]? = some x→w.cell? ⟨bk,o + j,none⟩=some (.string x))→bk < w.heap.size→ys.length≤c→Calls P f #[.slice (some ⟨bk,o,none⟩) ys.length c, .string s] w fun e w'=>e = .returned (.string ⟨r.toArray⟩)∧Below w.heap.size w w') :
  Snd P f [.frz 1 nl (xs.map cs), .str l] (.str r) [.unk, .unk]:=by
 refine ⟨rfl,fun w S vs F hvl hS hF1 hF2 ha => ?_⟩
 match vs,hvl with
 | [a,b],_=>
  have g0:FV w S (.frz 1 nl (xs.map cs)) a:=ha 0 _ _ rfl rfl
  have g1:FV w S (.str l) b:=ha 1 _ _ rfl rfl
  have key:Calls P f #[a,b] w fun e w'=>e = .returned (.string ⟨r.toArray⟩)∧Below w.heap.size w w':=by
   cases g1 with
   | @str s _ hs=>
    generalize hX:xs.map cs=X at g0
    cases g0 with
    | frz hc _=>
     cases hc with
     | nil=>exact h0 (by simpa using hX) w none 0 s hs
     | @row _ _ A cap us hlen hsz hv hc=>
      subst hX
      simp only [List.length_map] at hlen ⊢
      cases xs with
      | nil=>
       exact h0 rfl w (some A) cap s hs
      | cons x0 xr=>
       generalize hxs:x0 :: xr=xs at *
       have hget:∀ (i:Nat) (x:List UInt8),xs[i]? = some x→∃ t:ByteArray,us i 0 = .string t∧t.data.toList=x∧A.spot=none∧w.cell? ⟨A.block,A.off + i,none⟩=some (.string t):=by
        intro i x hi
        have e1:(xs.map cs)[i]? = some (cs x):=by rw [List.getElem?_map,hi];rfl
        obtain ⟨k1,k2,k3⟩:=hv i 0 (cs x) (.str x) e1 rfl
        have k4:=hc i 0 (cs x) (.str x) e1 rfl
        generalize hu:us i 0=u at *
        cases k4 with
        | str ht=>exact ⟨_,rfl,ht,k1,by simpa using k3⟩
       have hz:∃ t,xs[0]? = some t:=⟨x0,by rw [←hxs];rfl⟩
       obtain ⟨t0,ht0⟩:=hz
       obtain ⟨y0,-,-,ksp,kc⟩:=hget 0 t0 ht0
       have hA:A=⟨A.block,A.off,none⟩:=by
        cases A
        simp only at ksp
        rw [ksp]
       let ys:List ByteArray:=(List.range xs.length).map fun i=>match us i 0 with | .string t=>t | _=>ByteArray.empty
       have hyl:ys.length=xs.length:=by simp [ys]
       have hyg:∀ (i:Nat) (y:ByteArray),ys[i]? = some y→∃ x,xs[i]? = some x∧y.data.toList=x∧w.cell? ⟨A.block,A.off + i,none⟩=some (.string y):=by
        intro i y hy
        have hil:i < xs.length:=by rw [←hyl];exact lt_len hy
        obtain ⟨t,e1,e2,-,e4⟩:=hget i xs[i] (List.getElem?_eq_getElem hil)
        have:y=t:=by
         simp only [ys,List.getElem?_map,List.getElem?_range hil,Option.map_some,Option.some.injEq,e1] at hy
         exact hy.symm
        subst this
        exact ⟨xs[i],List.getElem?_eq_getElem hil,e2,e4⟩
       have hym:ys.map (·.data.toList)=xs:=by
        apply List.ext_getElem?
        intro i
        rw [List.getElem?_map]
        cases hy:ys[i]? with
        | none=>rw [List.getElem?_eq_none (by rw [←hyl];exact List.getElem?_eq_none_iff.1 hy)];rfl
        | some y=>
         obtain ⟨x,e1,e2,-⟩:=hyg i y hy
         rw [e1,←e2]
         rfl
       have hk:=h1 (by rw [←hxs];simp) w A.block A.off cap ys s hs hym (fun j x hx=>by
        obtain ⟨_,_,_,e⟩:=hyg j x hx
        exact e) (lt_of_cell kc) (by rw [hyl];exact hlen)
       rw [hyl,←hA] at hk
       exact hk
  left
  refine ⟨?_,key.mono fun e w' hx=>⟨_,hx.1,?_,fun _ _=>False,fun _ _ _ h=>h.elim,fun _ _ h=>h.elim,?_,?_,trivial⟩⟩
  ·cases hbb:fn.body with
   | none=>rw [hbb] at hb;cases hb
   | some c=>
    simp [callFunc,go_sem,hf,hbb]
    simpa using hn
  ·exact ⟨hx.2.os,hx.2.tape,hx.2.output,hx.2.size,fun b hb => .inl (hx.2.block b hb)⟩
  ·exact FV.str rfl
  ·intro k o u ho hu
   match k,ho with
   | 0,ho=>cases ho;trivial
   | 1,ho=>cases ho;trivial
   | k + 2,ho=>simp at ho
end Go.Fw
