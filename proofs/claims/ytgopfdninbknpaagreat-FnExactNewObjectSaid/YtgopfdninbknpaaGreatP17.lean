/- A contract of the library's shelf as a contract of the framework: two texts in, a truth value out. -/
import Derived.Test.YtgopfdninbknpaaGreatFz
import Derived.Below
import Derived.Test.YtgopfdninbknpaaGreatRep
import Derived.Test.YtgopfdninbknpaaGreatLibC
import Derived.Test.YtgopfdninbknpaaGreatP05a
import Derived.Test.YtgopfdninbknpaaGreatMA
namespace Go.Fw
set_option linter.unusedVariables false
open Go.RowKit in
theorem snd_str_str {P:Program} {f:FuncId} {fn:Func} (hf:P.funcs[f]? = some fn) (hb:fn.body.isSome=true) (hn:(fn.name == "runtime.NumGoroutine")=false) {l r:List UInt8} {t:Bool}
  (h:∀ (w:World) (s c:ByteArray),s.data.toList=l→c.data.toList=r→Calls P f #[.string s, .string c] w fun e w'=>e = .returned (.bool t)∧Below w.heap.size w w'):Snd P f [.str l, .str r] (.bool t) [.unk, .unk]:=by
 refine ⟨rfl,fun w S vs F hvl hS hF1 hF2 ha => ?_⟩
 match vs,hvl with
 | [a,b],_=>
  have h0:FV w S (.str l) a:=ha 0 _ _ rfl rfl
  have h1:FV w S (.str r) b:=ha 1 _ _ rfl rfl
  cases h0 with
  | str hs=>
   cases h1 with
   | str hr=>
    left
    refine ⟨?_,(h w _ _ hs hr).mono fun e w' hx=>⟨_,hx.1,?_,fun _ _=>False,fun _ _ _ h=>h.elim,fun _ _ h=>h.elim,?_,?_,trivial⟩⟩
    ·cases hbb:fn.body with
     | none=>rw [hbb] at hb;cases hb
     | some c=>
      simp [callFunc,go_sem,hf,hbb]
      simpa using hn
    ·exact ⟨hx.2.os,hx.2.tape,hx.2.output,hx.2.size,fun b hb => .inl (hx.2.block b hb)⟩
    ·exact FV.bool _
    ·intro k o u ho hu
     match k,ho with
     | 0,ho=>cases ho;trivial
     | 1,ho=>cases ho;trivial
     | k + 2,ho=>simp at ho
end Go.Fw
namespace Go.Proofs.YtgopfdninbknpaaGreat
open Go.Fw
set_option linter.unusedVariables false
set_option linter.unusedSimpArgs false
theorem strings_ContainsAny (l r:Str) (hl:l.length < 4294967281) (h2:r.length=2) (hr:∀ (j:Nat) b,r[j]? = some b→b.toNat < 128):Snd Tryz.prog 236 [.str l, .str r] (.bool (Lib.containsAny l r)) [.unk, .unk]:=
 snd_str_str Tryz.func236 (by kernel_rfl) (by kernel_rfl) fun w s c hs hc=>by
  have hsz:s.size=l.length:=by rw [←hs];rfl
  have hcz:c.size=r.length:=by rw [←hc];rfl
  have:=Own.ContainsAny Tryz.lays150 (by kernel_rfl) s c w (by omega) (by omega) (by rw [hc];exact hr)
  rw [hs,hc] at this
  exact this
def nameOk (l:Str):Bool:=decide (1≤l.length) && decide (l.length≤12) && !Lib.containsAny l [0,47] && !decide (l = [46]) && !decide (l = [46,46])
theorem ascii2:∀ (j:Nat) (b:UInt8),([0,47]:Str)[j]? = some b→b.toNat < 128
 | 0,b,h=>by cases h;decide
 | 1,b,h=>by cases h;decide
 | k + 2,b,h=>by simp at h
set_option maxHeartbeats 4000000 in
set_option maxRecDepth 8000 in
theorem impl_IsEntryName (l:Str) (hl:l.length≤1048576):Snd Tryz.prog 166 [.str l] (.bool (nameOk l)) [.unk]:=Runs.snd (M:=M) (c:=⟨1,[2],[],[]⟩) tok ks mixed Tryz.func166 (p := []) (by kernel_rfl) (by rfl) (by rfl) <| by
 unfold nameOk
 (try simp -implicitDefEqProofs (disch:=first|exact dd|fail)[Tryz.f166]);(repeat'((with_reducible first|(refine Br.out ?_ ?_<;>intro h<;>(try(have h0:=h;simp only[bH]at h)))|refine AC_snd (strings_ContainsAny l [0,47] (by omega) rfl ascii2) ?_|fail)<;>(try simp -implicitDefEqProofs (disch:=first|exact dd|fail)[Tryz.f166])))
 all_goals grind
theorem containsAny_iff:∀ l:Str,0≤Lib.indexAny l [0,47]↔l.any (fun b=>decide (b=0) || decide (b=47))=true
 | []=>by simp [Lib.indexAny]
 | b :: l=>by
  have hg:=Lib.indexAny_ge [0,47] l
  have ih:=containsAny_iff l
  have hc:(([0,47]:List UInt8).contains b=true)↔(decide (b=0) || decide (b=47))=true:=by simp
  rw [Lib.indexAny,List.any_cons,Bool.or_eq_true,←ih,←hc]
  by_cases h:([0,47]:List UInt8).contains b=true
  ·rw [if_pos h]
   exact ⟨fun _ => .inl h,fun _=>by decide⟩
  ·rw [if_neg h]
   by_cases h1:Lib.indexAny l [0,47] = -1
   ·rw [if_pos (by rw [h1];rfl)]
    exact ⟨fun h=>by omega,fun h2=>h2.elim (fun h3=>absurd h3 h) (fun h3=>by omega)⟩
   ·rw [if_neg (by rw [beq_iff_eq];exact h1)]
    exact ⟨fun _ => .inr (by omega),fun _=>by omega⟩
theorem containsAny_any (l:Str):Lib.containsAny l [0,47]=l.any (fun b=>decide (b=0) || decide (b=47)):=by
 rw [Bool.eq_iff_iff,←containsAny_iff,Lib.containsAny,decide_eq_true_eq]
set_option maxHeartbeats 4000000 in
set_option maxRecDepth 8000 in
theorem spec_IsEntryName (l:Str) (hl:l.length≤1048576):Snd Tryz.prog 219 [.str l] (.bool (nameOk l)) [.unk]:=Runs.snd (M:=M) (c:=⟨1,[2,3,15,19,31],[],[]⟩) tok ks mixed Tryz.func219 (p := []) (by kernel_rfl) (by rfl) (by rfl) <| by
 (try simp -implicitDefEqProofs (disch:=first|exact dd|fail)[Tryz.f219]);(repeat'((with_reducible first|(refine Br.out ?_ ?_<;>intro h<;>(try(have h0:=h;simp only[bH]at h)))|refine AC_snd (spec_l01In _ _ _) ?_|fail)<;>(try simp -implicitDefEqProofs (disch:=first|exact dd|fail)[Tryz.f219])))
 ·simp [nameOk];grind
 ·simp [nameOk];grind
 ·simp [nameOk];grind
 have hn:nameOk l = !l.any (fun b=>decide (b=0) || decide (b=47)):=by simp only [nameOk,containsAny_any];grind
 refine AL_ind (fun i=>l.length - i) (fun i=>⟨[(0, .str l),(2, .bool false),(3, .int .i64 i)],[],false⟩)
  (fun i=>i≤l.length∧(l.drop i).any (fun b=>decide (b=0) || decide (b=47))=l.any (fun b=>decide (b=0) || decide (b=47))) 0 rfl ⟨by omega,rfl⟩ ?_
 rintro i n ⟨hi,he⟩ ih
 rcases Nat.lt_or_ge i l.length with hlt | hge
 ·rw [List.drop_eq_getElem_cons hlt,List.any_cons] at he
  (try simp -implicitDefEqProofs (disch:=first|exact dd|fail)[Tryz.f219,hlt]);(repeat'((with_reducible first|(refine Br.out ?_ ?_<;>intro h<;>(try(have h0:=h;simp only[bH]at h)))|fail)<;>(try simp -implicitDefEqProofs (disch:=first|exact dd|fail)[Tryz.f219,hlt])))
  ·rename_i h
   have hx:l[i]=0:=UInt8.toNat_inj.1 h
   simp [hn,←he,hx]
  ·rename_i h
   have hx:l[i]=47:=UInt8.toNat_inj.1 (by simpa using (show l[i].toNat=47 by omega))
   simp [hn,←he,hx]
  ·rename_i h
   have hx:¬ l[i]=0:=fun e=>(by assumption:¬ l[i].toNat=0) (by rw [e];rfl)
   have hy:¬ l[i]=47:=fun e=>h (by rw [e];rfl)
   exact ih (i + 1) ⟨by omega,by simpa [hx,hy] using he⟩ (by omega)
 ·obtain rfl:i=l.length:=by omega
  simp only [List.drop_length,List.any_nil] at he
  (try simp -implicitDefEqProofs (disch:=first|exact dd|fail)[Tryz.f219]);(repeat'((with_reducible first|(refine Br.out ?_ ?_<;>intro h<;>(try(have h0:=h;simp only[bH]at h)))|fail)<;>(try simp -implicitDefEqProofs (disch:=first|exact dd|fail)[Tryz.f219])))
  simp [hn,←he]
theorem nameOk_eq (l:Str):nameOk l=nameOK l:=by
 have h:l.all isNm = !l.any (fun b=>decide (b=0) || decide (b=47)):=by
  induction l with
  | nil=>rfl
  | cons b l ih=>simp only [List.all_cons,List.any_cons,ih,isNm,Bool.not_or]
 simp only [nameOk,nameOK,containsAny_any,h]
end Go.Proofs.YtgopfdninbknpaaGreat
