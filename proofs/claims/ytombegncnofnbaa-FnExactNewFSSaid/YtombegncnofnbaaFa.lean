/- The framework of this session, part 1: an evaluator over the loaded code, and that it is sound. No statement is assumed. -/
import Derived.WalkKit
import Derived.Laws.Append
import Derived.Laws.BytesString
import Derived.Lib.ConvBytes
import Derived.Laws.Strings
import Derived.Laws.StructEq
import Derived.Deep.MidRow
import Derived.Deep.AppendSrc
import Derived.Laws.MakeOwn
import Derived.Great.BuildSlice
import Derived.Deep.Upon
namespace Go.Fw
set_option linter.unusedVariables false
set_option linter.unusedSimpArgs false
abbrev Rid:=Nat
abbrev Path:=Option (Nat × Nat)
def rv (s k:Nat):Rid:=2 * (64 * s + k)
def rt (i k:Nat):Rid:=2 * (4096 * i + k) + 1
def isTemp (r:Rid):Bool:=r % 2 == 1
inductive AV where
 | unk
 | undef
 | int (k:IntKind) (n:Int)
 | bool (b:Bool)
 | str (s:List UInt8)
 | row (sz:Nat) (xs:List (List AV))
 | frz (sz:Nat) (nl:Option Bool) (xs:List (List AV))
 | ref (r:Rid) (p:Path) (sz off len:Nat) (nl:Option Bool)
 | ptr (r:Rid) (p:Path) (i j:Nat)
 | fptr (cs:List AV)
 | wptr (cs:List AV)
 | pp (k c:Nat) (p:Path) (i j:Nat)
 | nilp
 | agg (cs:List AV)
 | tup (vs:List AV)
 | fn (f:FuncId) (cap:List AV)
 deriving Inhabited
inductive Root where
 | row (sz:Nat) (xs:List (List AV)) (dirty:List Nat)
 | box (cs:List AV)
inductive TK where
 | int (k:IntKind) | bool | str | slice (e:TypeId) | struct (fs:List (Nat × TypeId)) (eq:Bool) | arr (n:Nat) (e:TypeId) | ptr (e:TypeId) | other
structure TI where
 k:TK
 size:Nat
 zero:List AV
abbrev Types:=TypeId→Option TI
def memR (r:Rid):List Rid→Bool
 | []=>false
 | q :: qs=>if r=q then true else memR r qs
def isNilL {α:Type}:List α→Bool
 | []=>true
 | _=>false
abbrev Heap:=List (Rid × Root)
def look {β:Type} (k:Nat):List (Nat × β)→Option β
 | []=>none
 |(k',v) :: l=>if k=k' then some v else look k l
def put {β:Type} (k:Nat) (v:β):List (Nat × β)→List (Nat × β)
 | [] => [(k,v)]
 |(k',v') :: l=>if k=k' then (k,v) :: l else if k < k' then (k,v) :: (k',v') :: l else (k',v') :: put k v l
def del {β:Type} (k:Nat):List (Nat × β)→List (Nat × β)
 | [] => []
 |(k',v') :: l=>if k=k' then del k l else (k',v') :: del k l
structure St where
 t:List (Nat × AV)
 h:Heap
 m:Bool:=false
def constAV:Value→Option AV
 | .int k n=>some (.int k n)
 | .bool b=>some (.bool b)
 | .string s=>some (.str s.data.toList)
 | .slice none 0 0=>some (.frz 0 (some true) [])
 | .pointer none=>some .nilp
 | _=>none
def St.ev (s:St):Operand→Option AV
 | .tmp k=>look k s.t
 | .const v=>constAV v
 | .func f=>some (.fn f [])
 | .global _=>none
def subRow (sz:Nat) (xs:List (List AV)) (dt:List Nat):Path→Option (Nat × List (List AV))
 | none=>some (sz,xs)
 | some (i,j)=>if dt.contains j then none else match xs[i]? with
  | some c=>match c[j]? with
   | some (.row sz' ys)=>some (sz',ys)
   | _=>none
  | none=>none
def getRow (h:Heap) (r:Rid) (p:Path):Option (Nat × List (List AV)):=
 match look r h with
 | some (.row sz xs dt)=>subRow sz xs dt p
 | _=>none
def getChunk (h:Heap) (r:Rid) (p:Path) (i:Nat):Option (List AV):=
 match look r h with
 | some (.box cs)=>match p,i with
  | none,0=>some cs
  | _,_=>none
 | some (.row sz xs dt)=>match subRow sz xs dt p with
  | some (_,ys)=>ys[i]?
  | none=>none
 | none=>none
def setSub (xs:List (List AV)):Path→List (List AV)→List (List AV)
 | none,ys=>ys
 | some (i,j),ys=>match xs[i]? with
  | some c=>match c[j]? with
   | some (.row sz _)=>xs.set i (c.set j (.row sz ys))
   | _=>xs
  | none=>xs
def setCells:List AV→Nat→List AV→List AV
 | cs,_,[]=>cs
 | cs,j,v :: vs=>setCells (cs.set j v) (j + 1) vs
def frzOf:AV→AV
 | .row sz xs => .frz sz none xs
 | a=>a
def refOf (r:Rid) (p:Path) (i:Nat):Nat→List AV→Option (List AV)
 | _,[]=>some []
 | j, .row sz xs :: cs=>match p,refOf r p i (j + 1) cs with
  | none,some ds=>some (.ref r (some (i,j)) sz 0 xs.length none :: ds)
  | _,_=>none
 | j,a :: cs=>match refOf r p i (j + 1) cs with
  | some ds=>some (a :: ds)
  | none=>none
structure Eff where
 ok:Prop:=True
 out:AV := .undef
 wr:List (Rid × Option Root) := []
 rd:List Rid := []
def plain:AV→Bool
 | .fn ..=>false
 | .agg _=>false
 | _=>true
def wrap1 (isAgg:Bool) (cs:List AV):Option AV:=
 if isAgg then (if cs.all plain=true then some (.agg cs) else none) else match cs with | [a]=>some a | _=>none
def cellsOf:AV→List AV
 | .agg cs=>cs
 | a => [a]
def TI.isAgg (t:TI):Bool:=match t.k with | .struct .. | .arr ..=>true | _=>false

def intBin (op:BinOp) (k:IntKind) (a b:Int):Option AV:=
 match op with
 | .add=>some (.int k (k.wrap (a + b)))
 | .sub=>some (.int k (k.wrap (a - b)))
 | .mul=>some (.int k (k.wrap (a * b)))
 | .quo=>if b=0 then none else some (.int k (k.wrap (a.tdiv b)))
 | .rem=>if b=0 then none else some (.int k (a.tmod b))
 | .and=>some (.int k (k.wrap ((BitVec.ofInt k.bits a &&& BitVec.ofInt k.bits b).toNat)))
 | .or=>some (.int k (k.wrap ((BitVec.ofInt k.bits a ||| BitVec.ofInt k.bits b).toNat)))
 | .xor=>some (.int k (k.wrap ((BitVec.ofInt k.bits a ^^^ BitVec.ofInt k.bits b).toNat)))
 | .andNot=>some (.int k (k.wrap ((BitVec.ofInt k.bits a &&& ~~~ BitVec.ofInt k.bits b).toNat)))
 | .eql=>some (.bool (decide (a=b)))
 | .neq=>some (.bool (!decide (a=b)))
 | .lss=>some (.bool (decide (a < b)))
 | .leq=>some (.bool (decide (a≤b)))
 | .gtr=>some (.bool (decide (a > b)))
 | .geq=>some (.bool (decide (a ≥ b)))
 | _=>none
def shiftBin (op:BinOp) (k:IntKind) (a b:Int):Option AV:=
 if b < 0 then none else
 match op with
 | .shl=>some (.int k (k.wrap (a * 2 ^ min b.toNat k.bits)))
 | .shr=>some (.int k (a.fdiv (2 ^ min b.toNat k.bits)))
 | _=>none
def LIM:Nat:=2 ^ 30
def strBin (op:BinOp) (a b:List UInt8):Option AV:=
 match op with
 | .add=>if a.length + b.length≤LIM then some (.str (a++b)) else none
 | .eql=>some (.bool (decide (a=b)))
 | .neq=>some (.bool (!decide (a=b)))
 | .lss=>some (.bool (Op.bytesLess a b))
 | .gtr=>some (.bool (!(Op.bytesLess a b || decide (a=b))))
 | .leq=>some (.bool (Op.bytesLess a b || decide (a=b)))
 | .geq=>some (.bool (!Op.bytesLess a b))
 | _=>none
def eqCell:TK→AV→AV→Option Bool
 | .int _, .int k a, .int k' b=>if k=k' then some (decide (a=b)) else none
 | .bool, .bool a, .bool b=>some (decide (a=b))
 | .str, .str a, .str b=>some (decide (a=b))
 | _,_,_=>none
def eqCells (T:Types):List (Nat × TypeId)→List AV→List AV→Option Bool
 | [],[],[]=>some true
 |(_,t) :: fs,a :: as,b :: bs=>match T t with
  | some ti=>match eqCell ti.k a b,eqCells T fs as bs with
   | some x,some y=>some (x && y)
   | _,_=>none
  | none=>none
 | _,_,_=>none
def isNilS:AV→Option Bool
 | .frz _ (some b) _=>some b
 | .frz _ none (_ :: _)=>some false
 | .ref _ _ _ _ _ (some b)=>some b
 | .ref _ _ _ _ (_ + 1) none=>some false
 | _=>none
def isNilP:AV→Option Bool
 | .nilp=>some true
 | .ptr ..=>some false
 | .fptr ..=>some false
 | _=>none
def nilOp (op:BinOp) (b:Option Bool):Option AV:=
 match op with
 | .eql=>b.map .bool
 | .neq=>b.map (fun b => .bool (!b))
 | _=>none
def absBin (T:Types) (t:TypeId) (fs:Option (List (Nat × TypeId))) (op:BinOp) (x y:AV):Option AV:=
 match x with
 | .int k a=>match y with
  | .int k' b=>match op with
   | .shl=>shiftBin .shl k a b
   | .shr=>shiftBin .shr k a b
   | op=>if k=k' then intBin op k a b else none
  | _=>none
 | .str a=>match y with
  | .str b=>strBin op a b
  | _=>none
 | .bool a=>match y with
  | .bool b=>match T t with
   | some ⟨.bool,_,_⟩=>match op with
    | .eql=>some (.bool (decide (a=b)))
    | .neq=>some (.bool (!decide (a=b)))
    | _=>none
   | _=>none
  | _=>none
 | .agg xs=>match y with
  | .agg ys=>match fs with
   | some fs=>match op with
    | .eql=>(eqCells T fs xs ys).map .bool
    | .neq=>(eqCells T fs xs ys).map (fun b => .bool (!b))
    | _=>none
   | none=>none
  | _=>none
 | x=>match T t with
  | some ⟨.slice _,_,_⟩=>match y with
   | .frz _ (some true) []=>nilOp op (isNilS x)
   | _=>none
  | some ⟨.ptr _,_,_⟩=>match y with
   | .nilp=>nilOp op (isNilP x)
   | _=>none
  | _=>none
def absUn (op:UnOp) (x:AV):Option AV:=
 match op,x with
 | .not, .bool b=>some (.bool (!b))
 | .neg, .int k n=>some (.int k (k.wrap (0 - n)))
 | _,_=>none
def bytesToList:List (List AV)→Option (List UInt8)
 | []=>some []
 | [.int .u8 n] :: r=>(bytesToList r).map (UInt8.ofNat n.toNat :: ·)
 | _=>none
def listToBytes (s:List UInt8):List (List AV):=s.map fun b => [.int .u8 b.toNat]
def minInt:List AV→Option AV
 | [.int k a, .int _ b]=>some (.int k (if b < a then b else a))
 | _=>none
def maxInt:List AV→Option AV
 | [.int k a, .int _ b]=>some (.int k (if b > a then b else a))
 | _=>none
def absLen (T:Types) (t:TypeId):AV→Option AV
 | .str s=>match T t with
  | some ⟨.str,_,_⟩=>some (.int .i64 s.length)
  | _=>none
 | .frz _ _ xs=>match T t with
  | some ⟨.slice _,_,_⟩=>some (.int .i64 xs.length)
  | _=>none
 | .ref _ _ _ _ n _=>match T t with
  | some ⟨.slice _,_,_⟩=>some (.int .i64 n)
  | _=>none
 | _=>none
def intake (h:Heap):AV→Option (AV × List Rid)
 | .frz sz (some true) []=>some (.row sz [],[])
 | .ref r none sz 0 n _=>match look r h with
  | some (.row sz' xs _)=>if xs.length=n∧sz'=sz then some (.row sz xs,[r]) else if n≤xs.length∧sz'=sz then some (.row sz (xs.take n),[r]) else none
  | _=>none
 | .int k n=>some (.int k n,[])
 | .bool b=>some (.bool b,[])
 | .str s=>some (.str s,[])
 | _=>none
def intakes (h:Heap):List AV→Option (List AV × List Rid)
 | []=>some ([],[])
 | a :: as=>match intake h a,intakes h as with
  | some (b,r),some (bs,rs)=>some (b :: bs,r++rs)
  | _,_=>none
def intakeAt (h:Heap) (r:Rid) (i j:Nat) (a:AV):Option (AV × List Rid):=
 match a with
 | .ref r' (some (i',j')) sz 0 n _=>if r'=r∧i'=i∧j'=j then match getRow h r (some (i,j)) with
   | some (sz',ys)=>if sz'=sz∧n≤ys.length then some (.row sz (ys.take n),[]) else none
   | none=>none
  else none
 | .frz sz (some true) []=>if sz=0 then (match getRow h r (some (i,j)) with
   | some (sz',_)=>some (.row sz' [],[])
   | none=>some (.row sz [],[])) else some (.row sz [],[])
 | a=>intake h a
def intakesAt (h:Heap) (r:Rid) (i:Nat):Nat→List AV→Option (List AV × List Rid)
 | _,[]=>some ([],[])
 | j,a :: as=>match intakeAt h r i j a,intakesAt h r i (j + 1) as with
  | some (b,q),some (bs,rs)=>some (b :: bs,q++rs)
  | _,_=>none
def isRow:AV→Bool
 | .row ..=>true
 | _=>false
def rowsAt:Nat→List AV→List Nat
 | _,[] => []
 | j,a :: as=>if isRow a then j :: rowsAt (j + 1) as else rowsAt (j + 1) as
def toRow:AV→AV
 | .frz sz _ [] => .row sz []
 | .int k n => .int k n
 | .bool b => .bool b
 | .str s => .str s
 | _ => .unk
def nodupR:List Rid→Bool
 | []=>true
 | r :: rs => !memR r rs && nodupR rs
def sliceBounds (len:Int) (lo hi:Option AV):Option (Int × Int):=
 match hi with
 | none=>match lo with
  | none=>some (0,len)
  | some (.int _ l)=>if 0≤l∧l≤len then some (l,len) else none
  | _=>none
 | some (.int _ h')=>if 0≤h'∧h'≤len then match lo with
   | none=>some (0,h')
   | some (.int _ l)=>if 0≤l∧l≤h' then some (l,h') else none
   | _=>none
  else none
 | _=>none
def flatCell:AV→Bool
 | .int ..=>true
 | .bool _=>true
 | .str _=>true
 | _=>false
def flatC:AV→Bool
 | .unk=>true
 | a=>flatCell a
def Flat (xs:List (List AV)):Prop:=∀ c ∈ xs,∀ a ∈ c,flatC a=true
def TI.flat (t:TI):Bool:=t.zero.all flatCell
def elems (h:Heap) (m:Nat):AV→Option (List (List AV) × List Rid)
 | .frz sz _ xs=>if sz=m∨isNilL xs=true then some (xs,[]) else none
 | .ref r p sz off n _=>match getRow h r p with
  | some (sz',xs)=>if sz=m∧sz'=sz then some ((xs.drop off).take n,[r]) else none
  | none=>none
 | _=>none
def elemsTaken (h:Heap) (m:Nat):AV→Option (List (List AV) × List Rid)
 | .frz _ _ []=>some ([],[])
 | .ref r none sz 0 n _=>match look r h with
  | some (.row sz' xs _)=>if xs.length=n∧sz'=sz∧sz=m then some (xs,[r]) else none
  | _=>none
 | _=>none
def storable:AV→Bool
 | .int ..=>true
 | .bool _=>true
 | .str _=>true
 | .frz ..=>true
 | .ref ..=>true
 | .ptr ..=>true
 | .fptr _=>true
 | .nilp=>true
 | .fn ..=>true
 | _=>false
def optOp (f:Operand→Option AV):Option Operand→Option (Option AV)
 | none=>some none
 | some x=>(f x).map some
def evList (s:St):List Operand→Option (List AV)
 | []=>some []
 | x :: xs=>match s.ev x,evList s xs with
  | some a,some as=>some (a :: as)
  | _,_=>none
def evParts (s:St):List (Nat × Operand)→Option (List (Nat × AV))
 | []=>some []
 |(i,x) :: xs=>match s.ev x,evParts s xs with
  | some a,some as=>some ((i,a) :: as)
  | _,_=>none
def fillStruct (T:Types) (fs:List (Nat × TypeId)):List AV→List (Nat × AV)→Option (List AV)
 | cs,[]=>some cs
 | cs,(i,a) :: ps=>match fs[i]? with
  | some (off,t)=>match T t with
   | some ti=>if (cellsOf a).length=ti.size∧off + ti.size≤cs.length∧(cellsOf a).all storable=true then fillStruct T fs (setCells cs off (cellsOf a)) ps else none
   | none=>none
  | none=>none
def fillSlice (h:Heap) (n:Nat):List (List AV)→List (Nat × AV)→Option (List (List AV) × List Rid)
 | xs,[]=>some (xs,[])
 | xs,(i,a) :: ps=>match intakes h (cellsOf a) with
  | some (cs,rs)=>if cs.length=n∧i < xs.length then
    match fillSlice h n (xs.set i cs) ps with
    | some (ys,rs')=>some (ys,rs++rs')
    | none=>none
   else none
  | none=>none
def gone (rs:List Rid):List (Rid × Option Root):=rs.map fun r=>(r,none)
section
variable (T:Types)
def loadAV (h:Heap) (t:TypeId) (a:AV):Option Eff:=
 match T t,a with
 | some ti, .ptr r p i j=>match getChunk h r p i with
  | some c=>if ((c.drop j).take ti.size).length=ti.size then
    match refOf r p i j ((c.drop j).take ti.size) with
    | some ds=>match wrap1 ti.isAgg ds with
     | some v=>some { out:=v,rd := [r] }
     | none=>none
    | none=>none
   else none
  | none=>none
 | some ti, .fptr cs=>if (cs.take ti.size).length=ti.size then
   match wrap1 ti.isAgg (cs.take ti.size) with
   | some v=>some { out:=v }
   | none=>none
  else none
 | _,_=>none
def storeAV (h:Heap) (t:TypeId) (a v:AV):Option Eff:=
 match T t,a with
 | some ti, .ptr r p i j=>match look r h with
  | some (.box cs)=>match p,i with
   | none,0=>if (cellsOf v).length=ti.size∧j + ti.size≤cs.length∧(cellsOf v).all storable=true then
     some { wr := [(r,some (.box (setCells cs j (cellsOf v))))],rd := [r] } else none
   | _,_=>none
  | some (.row sz xs dt)=>if (cellsOf v).length=ti.size then
    match p with
    | none=>match xs[i]? with
     | some c=>if j + ti.size≤c.length then
       match intakesAt h r i j (cellsOf v) with
       | some (vs,rs)=>if memR r rs || !nodupR rs then none else some { wr:=(r,some (.row sz (xs.set i (setCells c j vs)) (rowsAt j vs++dt))) :: gone rs,rd:=r :: rs }
       | none=>none
      else none
     | none=>none
    | some q=>match subRow sz xs dt (some q) with
     | some (_,ys)=>match ys[i]? with
      | some c=>if j + ti.size≤c.length then
        match intakes h (cellsOf v) with
        | some (vs,[])=>some { wr := [(r,some (.row sz (setSub xs (some q) (ys.set i (setCells c j vs))) dt))],rd := [r] }
        | _=>none
       else none
      | none=>none
     | none=>none
   else none
  | none=>none
 | _,_=>none
def appendRes (i:Nat) (sz:Nat) (zs:List (List AV)) (nl:Option Bool) (ok:Prop) (wr:List (Rid × Option Root)) (rd:List Rid):Option Eff:=
 if zs.length≤LIM then some { ok:=ok,out := .ref (rt i 0) none sz 0 zs.length nl,wr:=wr ++ [(rt i 0,some (.row sz zs []))],rd:=rd } else none
def source (h:Heap) (te:TI) (y:AV):Option (List (List AV) × List Rid × List Rid):=
 if te.flat then (elems h te.size y).map fun (ys,rs)=>(ys,rs,[]) else (elemsTaken h te.size y).map fun (ys,rs)=>(ys,rs,rs)
def needFlat (te:TI) (ys:List (List AV)):Prop:=te.flat=true→Flat ys
def stays:Option Bool→Option Bool
 | some false=>some false
 | _=>none
def appendTo (h:Heap) (i sz:Nat) (ys:List (List AV)) (ok:Prop) (rd tk:List Rid) (x:AV):Option Eff:=
 match x with
 | .frz _ (some true) []=>appendRes i sz ys none ok (gone tk) rd
 | .ref r none sz0 0 n nl=>match look r h with
  | some (.row sz' xs _)=>if (n≤xs.length∧sz0=sz∧sz'=sz0)∧memR r tk=false then
    appendRes i sz (xs.take n++ys) (stays nl) ok ((r,none) :: gone tk) (r :: rd) else none
  | _=>none
 | .ref r (some (i',j')) sz0 0 n nl=>match look r h with
  | some (.row szr xs0 dt)=>match subRow szr xs0 dt (some (i',j')) with
   | some (sz',xs)=>if (n≤xs.length∧sz0=sz∧sz'=sz0)∧memR r tk=false then
     match xs0[i']? with
     | some c=>appendRes i sz (xs.take n++ys) (stays nl) ok ((r,some (.row szr (xs0.set i' (c.set j' .unk)) dt)) :: gone tk) (r :: rd)
     | none=>none
    else none
   | none=>none
  | _=>none
 | _=>none
def appendAV (h:Heap) (i:Nat) (t u:TypeId) (x y:AV):Option Eff:=
 match T t,T u with
 | some ⟨.slice e,_,_⟩,some ⟨.slice _,_,_⟩=>match T e with
  | some te=>match source h te y with
   | some (ys,rd,tk)=>appendTo h i te.size ys (needFlat te ys) rd tk x
   | none=>none
  | none=>none
 | _,_=>none
def copySrc (h:Heap):AV→Option (List (List AV) × List Rid)
 | .str s=>some (listToBytes s,[])
 | y=>elems h 1 y
def copyInto (h:Heap) (ys:List (List AV)) (rd:List Rid) (x:AV):Option Eff:=
 match x with
 | .ref r none sz off n _=>match look r h with
  | some (.row sz' xs dt)=>if sz=1∧sz'=1∧off + n≤xs.length then
    some { ok:=Flat ys,out := .int .i64 ((min ys.length n:Nat):Int),wr := [(r,some (.row 1 (xs.take off++(ys.take n++xs.drop (off + min ys.length n))) dt))],rd:=r :: rd } else none
  | _=>none
 | _=>none
def copyAV (h:Heap) (t:TypeId) (x y:AV):Option Eff:=
 match T t with
 | some ⟨.slice e,_,_⟩=>match T e with
  | some te=>if te.size=1 then match copySrc h y with
    | some (ys,rd)=>copyInto h ys rd x
    | none=>none
   else none
  | none=>none
 | _=>none
def convertAV (h:Heap) (i:Nat) (src dst:TypeId) (x:AV):Option Eff:=
 match x with
 | .int _ n=>match T src,T dst with
  | some ⟨.int _,_,_⟩,some ⟨.int k,_,_⟩=>some { out := .int k (k.wrap n) }
  | _,_=>none
 | .str s=>match T src,T dst with
  | some ⟨.str,_,_⟩,some ⟨.slice e,_,_⟩=>match T e with
   | some ⟨.int .u8,1,_⟩=>if s.length≤LIM then some { out := .ref (rt i 0) none 1 0 s.length (some false),wr := [(rt i 0,some (.row 1 (listToBytes s) []))] } else none
   | _=>none
  | some ⟨.str,_,_⟩,some ⟨.str,_,_⟩=>some { out := .str s }
  | _,_=>none
 | x=>match T src,T dst with
  | some ⟨.slice e,_,_⟩,some ⟨.str,_,_⟩=>match T e with
   | some ⟨.int .u8,1,_⟩=>match elems h 1 x with
    | some (ys,rs)=>match bytesToList ys with
     | some l=>some { out := .str l,rd:=rs }
     | none=>none
    | none=>none
   | _=>none
  | _,_=>none
def sliceAV (t:TypeId) (x:AV) (lo hi:Option AV):Option AV:=
 match x with
 | .str s=>match T t with
  | some ⟨.str,_,_⟩=>match sliceBounds s.length lo hi with
   | some (l,h)=>some (.str ((s.drop l.toNat).take (h - l).toNat))
   | none=>none
  | _=>none
 | .frz sz nl xs=>match T t with
  | some ⟨.slice e,_,_⟩=>match T e with
   | some te=>if sz=te.size∨isNilL xs=true then match sliceBounds xs.length lo hi with
     | some (l,h)=>some (.frz sz nl ((xs.drop l.toNat).take (h - l).toNat))
     | none=>none
    else none
   | none=>none
  | _=>none
 | .ref r p sz off n nl=>match T t with
  | some ⟨.slice e,_,_⟩=>match T e with
   | some te=>if sz=te.size then match sliceBounds n lo hi with
     | some (l,h)=>some (.ref r p sz (off + l.toNat) (h - l).toNat nl)
     | none=>none
    else none
   | none=>none
  | _=>none
 | _=>none
def indexAddrAV (h:Heap) (t:TypeId) (x ix:AV):Option Eff:=
 match T t,x,ix with
 | some ⟨.slice e,_,_⟩, .frz sz _ xs, .int _ i=>match T e with
  | some te=>if (0≤i∧i < xs.length)∧sz=te.size∧0 < sz then
    match xs[i.toNat]? with | some c=>some { out := .fptr (c.map frzOf) } | none=>none
    else none
  | none=>none
 | some ⟨.slice e,_,_⟩, .ref r p sz off n _, .int _ i=>match T e,getRow h r p with
  | some te,some (sz',_)=>if (0≤i∧i < n)∧sz=te.size∧sz'=sz then some { out := .ptr r p (off + i.toNat) 0,rd := [r] } else none
  | _,_=>none
 | some ⟨.arr n e,_,_⟩, .ptr r p i' j, .int _ i=>match T e with
  | some te=>if 0≤i∧i < n then some { out := .ptr r p i' (j + i.toNat * te.size) } else none
  | none=>none
 | _,_,_=>none
def indexAV (t:TypeId) (x ix:AV):Option AV:=
 match T t,x,ix with
 | some ⟨.str,_,_⟩, .str s, .int _ i=>if 0≤i∧i < s.length then match s[i.toNat]? with | some b=>some (.int .u8 b.toNat) | none=>none else none
 | _,_,_=>none
def fieldAddrAV (t:TypeId) (x:AV) (f:Nat):Option AV:=
 match T t with
 | some ⟨.struct fs _,_,_⟩=>match fs[f]? with
  | some (off,_)=>match x with
   | .ptr r p i j=>some (.ptr r p i (j + off))
   | .fptr cs=>some (.fptr (cs.drop off))
   | _=>none
  | none=>none
 | _=>none
def fieldAV (t:TypeId) (x:AV) (f:Nat):Option AV:=
 match T t,x with
 | some ⟨.struct fs _,_,_⟩, .agg cs=>match fs[f]? with
  | some (off,u)=>match T u with
   | some tu=>if ((cs.drop off).take tu.size).length=tu.size then wrap1 tu.isAgg ((cs.drop off).take tu.size) else none
   | none=>none
  | none=>none
 | _,_=>none
def eqFs (t:TypeId):Option (List (Nat × TypeId)):=match T t with
 | some ⟨.struct fs true,_,_⟩=>some fs
 | _=>none
def pure1 (a:Option AV):Option Eff:=a.map fun v=>{ out:=v }
def pickAV:Option AV→Option AV→Option AV→Option Eff
 | some (.bool true),a,_=>pure1 a
 | some (.bool false),_,b=>pure1 b
 | _,_,_=>none
def aop (s:St) (i:Nat) (o:Oper):Option Eff:=
 match o.op with
 | .move x | .assign x=>pure1 (s.ev x)
 | .pick c a b=>pickAV (s.ev c) (s.ev a) (s.ev b)
 | .alloc e=>match T e with
  | some te=>some { out := .ptr (rt i 0) none 0 0,wr := [(rt i 0,some (.box te.zero))] }
  | none=>none
 | .box e x=>match T e,s.ev x with
  | some te,some v=>if (cellsOf v).length=te.size∧(cellsOf v).all storable=true then some { out := .ptr (rt i 0) none 0 0,wr := [(rt i 0,some (.box (cellsOf v)))] } else none
  | _,_=>none
 | .build t parts=>match T t,evParts s parts.toList with
  | some ⟨.struct fs _,_,z⟩,some ps=>match fillStruct T fs z ps with
   | some cs=>pure1 (wrap1 true cs)
   | none=>none
  | _,_=>none
 | .buildSlice t n parts=>match T t,evParts s parts.toList with
  | some ⟨.slice e,_,_⟩,some ps=>match T e with
   | some te=>match fillSlice s.h te.size (List.replicate n (te.zero.map toRow)) ps with
    | some (xs,rs)=>if !nodupR rs || !decide (n * te.size≤16777216) then none else some { out := .ref (rt i 0) none te.size 0 n (some false),wr:=gone rs ++ [(rt i 0,some (.row te.size xs []))],rd:=rs }
    | none=>none
   | none=>none
  | _,_=>none
 | .makeSlice t l c=>match T t,s.ev l,s.ev c with
  | some ⟨.slice e,_,_⟩,some (.int _ n),some (.int _ n')=>match T e with
   | some te=>if 0≤n∧n=n'∧n≤LIM then
     some { out := .ref (rt i 0) none te.size 0 n.toNat (some false),wr := [(rt i 0,some (.row te.size (List.replicate n.toNat (te.zero.map toRow)) []))] } else none
   | none=>none
  | _,_,_=>none
 | .load t a=>match s.ev a with | some a=>loadAV T s.h t a | none=>none
 | .store t a v=>match s.ev a,s.ev v with
  | some a,some v=>storeAV T s.h t a v
  | _,_=>none
 | .nilCheck x=>match s.ev x with
  | some (.ptr r p i j)=>some { out := .ptr r p i j }
  | some (.fptr cs)=>some { out := .fptr cs }
  | _=>none
 | .fieldAddr t x f=>match s.ev x with | some x=>pure1 (fieldAddrAV T t x f) | none=>none
 | .field t x f=>match s.ev x with | some x=>pure1 (fieldAV T t x f) | none=>none
 | .indexAddr t x ix=>match s.ev x,s.ev ix with | some x,some ix=>indexAddrAV T s.h t x ix | _,_=>none
 | .index t x ix=>match s.ev x,s.ev ix with | some x,some ix=>pure1 (indexAV T t x ix) | _,_=>none
 | .slice t x lo hi none=>match s.ev x,optOp s.ev lo,optOp s.ev hi with
  | some x,some lo,some hi=>pure1 (sliceAV T t x lo hi)
  | _,_,_=>none
 | .binOp op t x y _=>match s.ev x,s.ev y with | some x,some y=>pure1 (absBin T t (eqFs T t) op x y) | _,_=>none
 | .unOp op _ x=>match s.ev x with | some x=>pure1 (absUn op x) | none=>none
 | .convert a b x=>match s.ev x with | some x=>convertAV T s.h i a b x | none=>none
 | .makeFunc (.func f) first caps=>match first.toList,evList s caps.toList with
  | [],some cs=>if cs.all storable=true∧cs.all plain=true then some { out := .fn f cs } else none
  | _,_=>none
 | .extract x k=>match s.ev x with
  | some (.tup vs)=>pure1 vs[k]?
  | _=>none
 | .call c=>match c.callee with
  | .builtin b=>match evList s c.args.toList with
   | some as=>match b,as with
    | .len,[a]=>match c.argTypes.toList with
     | t :: _=>pure1 (absLen T t a)
     | _=>none
    | .append,[a,b]=>match c.argTypes.toList with
     | [t,u]=>appendAV T s.h i t u a b
     | _=>none
    | .copy,[a,b]=>match c.argTypes.toList with
     | [t,_]=>copyAV T s.h t a b
     | _=>none
    | .min,as=>pure1 (minInt as)
    | .max,as=>pure1 (maxInt as)
    | _,_=>none
   | none=>none
  | _=>none
 | _=>none
end

def isFp:AV→Bool
 | .fptr _=>true
 | _=>false
def cellR (h:Heap):AV→Option (AV × List Rid)
 | .row sz xs=>some (.frz sz none xs,[])
 | .ref r p sz off n nl=>match getRow h r p with
  | some (sz',xs)=>if sz'=sz then some (.frz sz nl ((xs.drop off).take n),[r]) else none
  | none=>none
 | .ptr ..=>none
 | .wptr _=>none
 | .pp ..=>none
 | .agg _=>none
 | .tup _=>none
 | .fn f cs=>if cs.all isFp=true then some (.fn f cs,[]) else none
 | a=>some (a,[])
def cellsR (h:Heap):List AV→Option (List AV × List Rid)
 | []=>some ([],[])
 | a :: as=>match cellR h a,cellsR h as with
  | some (b,r),some (bs,rs)=>some (b :: bs,r++rs)
  | _,_=>none
def capR (h:Heap):AV→Option (AV × List Rid)
 | .ptr r p i j=>match getChunk h r p i with
  | some c=>match cellsR h (c.drop j) with
   | some (cs,rs)=>some (.fptr cs,r :: rs)
   | none=>none
  | none=>none
 | .fptr cs=>some (.fptr cs,[])
 | _=>none
def capsR (h:Heap):List AV→Option (List AV × List Rid)
 | []=>some ([],[])
 | a :: as=>match capR h a,capsR h as with
  | some (b,r),some (bs,rs)=>some (b :: bs,r++rs)
  | _,_=>none
def passR (h:Heap) (n:Nat):AV→Option (AV × List Rid)
 | .agg cs=>match cellsR h cs with
  | some (cs,rs)=>some (.agg cs,rs)
  | none=>none
 | .ptr r p i j=>match getChunk h r p i with
  | some c=>if ((c.drop j).take n).length=n then match cellsR h ((c.drop j).take n) with
    | some (cs,rs)=>some (.fptr cs,r :: rs)
    | none=>none
   else none
  | none=>none
 | .fptr cs=>if (cs.take n).length=n then some (.fptr (cs.take n),[]) else none
 | .fn f caps=>match capsR h caps with
  | some (cs,rs)=>some (.fn f cs,rs)
  | none=>none
 | a=>cellR h a
def cellW (h:Heap):AV→Option (AV × List Rid)
 | .ref r none sz 0 n _=>match look r h with
  | some (.row sz' xs _)=>if xs.length=n∧sz'=sz then some (.row sz xs,[r]) else none
  | _=>none
 | .int k n=>some (.int k n,[])
 | .bool b=>some (.bool b,[])
 | .str s=>some (.str s,[])
 | .frz sz nl xs=>some (.frz sz nl xs,[])
 | .unk=>some (.unk,[])
 | _=>none
def cellsW (h:Heap):List AV→Option (List AV × List Rid)
 | []=>some ([],[])
 | a :: as=>match cellW h a,cellsW h as with
  | some (b,r),some (bs,rs)=>some (b :: bs,r++rs)
  | _,_=>none
def passW (h:Heap) (n:Nat):AV→Option (AV × List Rid)
 | .ref r none sz 0 m _=>match look r h with
  | some (.row sz' xs _)=>if xs.length=m∧sz'=sz then some (.row sz xs,[r]) else none
  | _=>none
 | .ref r (some (i,j)) sz 0 m _=>match look r h with
  | some (.row szr xs dt)=>match subRow szr xs dt (some (i,j)) with
   | some (sz',ys)=>if ys.length=m∧sz'=sz then some (.row sz ys,[r]) else none
   | none=>none
  | _=>none
 | .agg cs=>match cellsW h cs with
  | some (ds,rs)=>some (.agg ds,rs)
  | none=>none
 | .ptr r none 0 j=>match look r h with
  | some (.box cs)=>if j + n≤cs.length then match cellsW h ((cs.drop j).take n) with
    | some (ds,rs)=>some (.wptr ds,r :: rs)
    | none=>none
   else none
  | _=>none
 | _=>none
abbrev Modes:=FuncId→List (Bool × Nat)
def passAll (h:Heap):List (Bool × Nat)→List AV→Option (List AV × List Rid × List Rid)
 | _,[]=>some ([],[],[])
 | [],a :: as=>match passR h 0 a,passAll h [] as with
  | some (b,r),some (bs,rs,ws)=>some (b :: bs,r++rs,ws)
  | _,_=>none
 |(false,n) :: ms,a :: as=>match passR h n a,passAll h ms as with
  | some (b,r),some (bs,rs,ws)=>some (b :: bs,r++rs,ws)
  | _,_=>none
 |(true,n) :: ms,a :: as=>match passW h n a,passAll h ms as with
  | some (b,r),some (bs,rs,ws)=>some (b :: bs,rs,r++ws)
  | _,_=>none
def disj (a b:List Rid):Bool:=a.all fun x => !memR x b
def passOK (rs ws:List Rid):Bool:=nodupR ws && disj rs ws
abbrev Wr:=List (Rid × Option Root)
def matCells (i:Nat):Nat→List AV→List AV × Wr × Nat
 | n,[]=>([],[],n)
 | n, .row sz xs :: cs=>match matCells i (n + 1) cs with | (as,w,n')=>(.ref (rt i n) none sz 0 xs.length none :: as,(rt i n,some (.row sz xs [])) :: w,n')
 | n,a :: cs=>match matCells i n cs with | (as,w,n')=>(a :: as,w,n')
def mat1 (i n:Nat):AV→AV × Wr × Nat
 | .row sz xs=>(.ref (rt i n) none sz 0 xs.length none,[(rt i n,some (.row sz xs []))],n + 1)
 | .agg cs=>match matCells i n cs with | (as,w,n')=>(.agg as,w,n')
 | a=>(a,[],n)
def matList (i:Nat):Nat→List AV→List AV × Wr × Nat
 | n,[]=>([],[],n)
 | n,a :: as=>match mat1 i n a with | (b,w,n')=>match matList i n' as with | (bs,ws,n'')=>(b :: bs,w++ws,n'')
def mat (i n:Nat):AV→AV × Wr × Nat
 | .tup vs=>match matList i n vs with | (as,w,n')=>(.tup as,w,n')
 | .wptr cs=>match matCells i n cs with | (as,w,n')=>(.ptr (rt i n') none 0 0,w ++ [(rt i n',some (.box as))],n' + 1)
 | a=>mat1 i n a
def cellRoots:List AV→List Rid
 | [] => []
 | .ref r _ _ _ _ _ :: cs=>r :: cellRoots cs
 | _ :: cs=>cellRoots cs
def backCell:AV→AV→Option Wr
 | .ref r none sz0 0 m _,o=>match o with
  | .row sz ys=>if ys.length=m∧sz=sz0 then some [(r,some (.row sz ys (List.range sz)))] else none
  | .unk=>some [(r,none)]
  | _=>none
 | .ref ..,_=>none
 | _,_=>some []
def backCells:List AV→List AV→Option Wr
 | [],[]=>some []
 | a :: cs,o :: os=>match backCell a o,backCells cs os with
  | some w,some ws=>some (w++ws)
  | _,_=>none
 | _,_=>none
def backW (h:Heap) (i n size:Nat) (arg out:AV):Option (Wr × Nat):=
 match arg with
 | .ref r (some (i',j')) sz0 0 m _=>match out with
  | .row sz ys=>match look r h with
   | some (.row szr xs dt)=>if ys.length=m∧sz=sz0 then some ([(r,some (.row szr (setSub xs (some (i',j')) ys) dt))],n) else none
   | _=>none
  | .unk=>some ([(r,none)],n)
  | _=>none
 | .agg cs=>match out with
  | .agg os=>(backCells cs os).map fun w=>(w,n)
  | .unk=>some (gone (cellRoots cs),n)
  | _=>none
 | .ref r none sz0 0 m _=>match out with
  | .row sz ys=>if ys.length=m∧sz=sz0 then some ([(r,some (.row sz ys (List.range sz)))],n) else none
  | .unk=>some ([(r,none)],n)
  | _=>none
 | .ptr r none 0 j=>match out with
  | .wptr ds=>match look r h with
   | some (.box cs)=>match matCells i n ds with
    |(as,ws,n')=>if ds.length=size then some (gone (cellRoots ((cs.drop j).take ds.length))++(ws ++ [(r,some (.box (setCells cs j as)))]),n') else none
   | _=>none
  | _=>none
 | _=>none
def backAll (h:Heap) (i:Nat):Nat→List (Bool × Nat)→List AV→List AV→Option (Wr × Nat)
 | n,_,[],[]=>some ([],n)
 | n,(true,k) :: ms,a :: as,o :: os=>match backW h i n k a o with
  | some (w,n')=>match backAll h i n' ms as os with
   | some (ws,n'')=>some (w++ws,n'')
   | none=>none
  | none=>none
 | n,(false,_) :: ms,_ :: as,_ :: os=>backAll h i n ms as os
 | n,[],_ :: as,_ :: os=>backAll h i n [] as os
 | _,_,_,_=>none
def rid1:AV→List Rid
 | .ref r .. => [r]
 | .ptr r .. => [r]
 | _ => []
def rid2:AV→List Rid
 | .agg cs=>cs.flatMap rid1
 | .fn _ cs=>cs.flatMap rid1
 | a=>rid1 a
def rids:AV→List Rid
 | .tup cs=>cs.flatMap rid2
 | a=>rid2 a
def applyWr:Wr→Heap→Heap
 | [],h=>h
 |(r,some x) :: w,h=>applyWr w (put r x h)
 |(r,none) :: w,h=>applyWr w (del r h)
def putT (dst:Option Tmp) (v:AV) (t:List (Nat × AV)):List (Nat × AV):=
 match dst with
 | some d=>put d v t
 | none=>t
def St.apply (s:St) (dst:Option Tmp) (e:Eff):St:=
 { t:=putT dst e.out s.t,h:=applyWr e.wr s.h,m:=s.m || !isNilL e.wr || (rids e.out).any isTemp }
def St.skip (s:St) (dst:Option Tmp):St:=
 { s with t:=putT dst .undef s.t }
structure Cfg where
 b:Nat            -- slots below this one are kept at a region's end
 x:List Nat       -- and these
 cx:List Nat      -- a test's operand is kept behind the test if it stands here
 l:List (Nat × List Nat)   -- behind block .. only these slots are kept
def ridsBox:Root→List Rid
 | .box cs=>cs.flatMap rid2
 | _ => []
def reach1:Heap→List Rid→List Rid
 | [],_ => []
 |(r,x) :: h,rs=>if memR r rs then ridsBox x++reach1 h rs else reach1 h rs
def ridsT:List (Nat × AV)→List Rid
 | [] => []
 |(_,a) :: t=>rids a++ridsT t
def more (h:Heap) (rs:List Rid):List Rid:=rs++reach1 h rs
def keepH (rs:List Rid):Heap→Heap
 | [] => []
 |(r,x) :: h=>if memR r rs then (r,x) :: keepH rs h else keepH rs h
def gc (s:St):St:={ s with h:=keepH (more s.h (more s.h (ridsT s.t))) s.h }
def ren1 (a b:Rid):AV→AV
 | .ref r p sz o n nl => .ref (if r=a then b else r) p sz o n nl
 | .ptr r p i j => .ptr (if r=a then b else r) p i j
 | x=>x
def ren2 (a b:Rid):AV→AV
 | .agg cs => .agg (cs.map (ren1 a b))
 | .fn f cs => .fn f (cs.map (ren1 a b))
 | x=>ren1 a b x
def ren (a b:Rid):AV→AV
 | .tup cs => .tup (cs.map (ren2 a b))
 | x=>ren2 a b x
def renRoot (a b:Rid):Root→Root
 | .box cs => .box (cs.map (ren2 a b))
 | x=>x
def ridsH:Heap→List Rid
 | [] => []
 |(_,x) :: h=>ridsBox x++ridsH h
def mentions (b:Rid) (s:St):Bool:=memR b (ridsT s.t) || memR b (ridsH s.h)
def renT (a b:Rid):List (Nat × AV)→List (Nat × AV)
 | [] => []
 |(k,x) :: t=>(k,ren a b x) :: renT a b t
def renH (a b:Rid):Heap→Heap
 | [] => []
 |(r,x) :: h=>(r,renRoot a b x) :: renH a b h
def rename (a b:Rid) (s:St):St:=
 match look a s.h with
 | some x=>if (look b s.h).isSome then s else if mentions b s then s else { s with t:=renT a b s.t,h:=put b (renRoot a b x) (renH a b (del a s.h)) }
 | none=>s
def wantsCells (k:Nat):Nat→List AV→List (Rid × Rid)
 | _,[] => []
 | m, .ref r none _ _ _ _ :: cs=>if isTemp r then (r,rv k (m + 1)) :: wantsCells k (m + 1) cs else wantsCells k (m + 1) cs
 | m,_ :: cs=>wantsCells k (m + 1) cs
def wants (h:Heap) (k:Nat):AV→List (Rid × Rid)
 | .ref r none _ _ _ _=>if isTemp r then [(r,rv k 0)] else []
 | .ptr r none _ _=>(if isTemp r then [(r,rv k 0)] else [])++(match look r h with | some (.box cs)=>wantsCells k 0 cs | _ => [])
 | _ => []
def renames:List (Rid × Rid)→St→St
 | [],s=>s
 |(a,b) :: l,s=>renames l (rename a b s)
def stale1 (h:Heap):AV→Bool
 | .ref r p ..=>isTemp r || (match p with | some (_,j)=>(match look r h with | some (.row _ _ dt)=>dt.contains j | _=>false) | none=>false)
 | .ptr r p ..=>isTemp r || (match p with | some (_,j)=>(match look r h with | some (.row _ _ dt)=>dt.contains j | _=>false) | none=>false)
 | _=>false
def scrub1 (h:Heap) (a:AV):AV:=if stale1 h a then .unk else a
def scrub2 (h:Heap):AV→AV
 | .agg cs => .agg (cs.map (scrub1 h))
 | .fn f cs => .fn f (cs.map (scrub1 h))
 | x=>scrub1 h x
def scrub (h:Heap):AV→AV
 | .tup cs => .tup (cs.map (scrub2 h))
 | x=>scrub2 h x
def scrubRoot (h:Heap):Root→Root
 | .box cs => .box (cs.map (scrub2 h))
 | .row sz xs _ => .row sz xs []
def scrubT (h:Heap):List (Nat × AV)→List (Nat × AV)
 | [] => []
 |(k,x) :: t=>(k,scrub h x) :: scrubT h t
def scrubH (h:Heap):Heap→Heap
 | [] => []
 |(r,x) :: g=>if isTemp r then scrubH h g else (r,scrubRoot h x) :: scrubH h g
def scrubAll (s:St):St:={ t:=scrubT s.h s.t,h:=scrubH s.h s.h,m:=false }
def wantsT (h:Heap):List (Nat × AV)→List (Rid × Rid)
 | [] => []
 |(k,x) :: t=>wants h k x++wantsT h t
def renamed (s:St):St:=renames (wantsT s.h s.t) s
def dang1 (h:Heap):AV→AV
 | .ref r p sz o n nl=>match look r h with
  | some _ => .ref r p sz o n nl
  | none => .unk
 | .ptr r p i j=>match look r h with
  | some _ => .ptr r p i j
  | none => .unk
 | x=>x
def dangT (h:Heap):List (Nat × AV)→List (Nat × AV)
 | [] => []
 |(k,x) :: t=>(k,dang1 h x) :: dangT h t
def dang (s:St):St:={ s with t:=dangT s.h s.t }
def clean (s:St):St:=if s.m then scrubAll (renamed (dang (gc s))) else s
def keeps (c:Cfg) (k:Nat):Bool:=if k < c.b then true else memR k c.x
def keepT (p:Nat→Bool):List (Nat × AV)→List (Nat × AV)
 | [] => []
 |(k,x) :: t=>if p k then (k,x) :: keepT p t else keepT p t
def finish (c:Cfg) (s:St):St:=clean { s with t:=keepT (keeps c) s.t }
def lost (t:List (Nat × AV)) (r:Rid):Bool := !isTemp r && (look (r / 128) t).isNone
def lostCells (t:List (Nat × AV)) (k:Nat):Nat→List AV→List (Rid × Rid)
 | _,[] => []
 | m, .ref r none _ _ _ _ :: cs=>if lost t r then (r,rv k (m + 1)) :: lostCells t k (m + 1) cs else lostCells t k (m + 1) cs
 | m,_ :: cs=>lostCells t k (m + 1) cs
def lost1 (t:List (Nat × AV)) (h:Heap) (k:Nat):AV→List (Rid × Rid)
 | .ref r none _ _ _ _=>if lost t r then [(r,rv k 0)] else []
 | .ptr r none _ _=>(if lost t r then [(r,rv k 0)] else [])++(match look r h with | some (.box cs)=>lostCells t k 0 cs | _ => [])
 | _ => []
def lostT (t:List (Nat × AV)) (h:Heap):List (Nat × AV)→List (Rid × Rid)
 | [] => []
 |(k,x) :: l=>lost1 t h k x++lostT t h l
def homes:List (Rid × Rid)→St→St
 | [],s=>s
 |(a,b) :: l,s=>homes l (if isTemp b then s else rename a b s)
def homed (s:St):St:=homes (lostT s.t s.h s.t) s
def keepOnly (l:List Nat) (s:St):St:=homed (gc { s with t:=keepT (fun k=>memR k l) s.t })
abbrev Log:=List (Nat × List Rid × List Rid)
def operTmps (ops:Array Oper) (o:Oper):List Nat:=o.looksAt ops
def indep (ops:Array Oper) (l:Log):Bool:=
 let b:=Region.before ops
 (l.all fun x=>l.all fun y => !(decide (x.1 < y.1)) || (b.getD y.1 0).testBit x.1 ||
  (disj x.2.2 (y.2.1++y.2.2) && disj y.2.2 x.2.1)) &&
 ((List.range ops.size).all fun j=>(List.range j).all fun i=>(b.getD j 0).testBit i ||
  (match ops[i]?,ops[j]? with | some x,some y=>x.apart ops y | _,_=>false)) &&
 ((List.range ops.size).all fun j=>match ops[j]? with | some o=>o.after.all (fun e => !Region.binds .any e || decide (e.on < j)) | none=>true)
inductive Out where
 | norm (s:St)
 | exit (id:Nat) (s:St)
 | ret (s:St)
section
variable (T:Types) (M:Modes) (C:FuncId→List AV→AV→List AV→Prop)
def calleeAV (s:St) (c:Call):Option (FuncId × List AV):=
 match c.callee with
 | .value x=>match s.ev x,evList s c.args.toList with
  | some (.fn f caps),some as=>some (f,as++caps)
  | _,_=>none
 | _=>none
def isCall (o:Oper):Bool:=match o.op with | .call c=>(match c.callee with | .builtin _=>false | _=>true) | _=>false
def hasFrz0:AV→Bool
 | .frz _ _ []=>false
 | .frz ..=>true
 | .fptr _=>true
 | .fn _ _=>true
 | .agg _=>true
 | .tup _=>true
 | .wptr _=>true
 | _=>false
def hasFrz1:AV→Bool
 | .agg cs=>cs.any hasFrz0
 | .wptr cs=>cs.any hasFrz0
 | .frz _ _ []=>false
 | .frz ..=>true
 | .fptr _=>true
 | .fn _ _=>true
 | _=>false
def hasFrz:AV→Bool
 | .tup vs=>vs.any hasFrz1
 | a=>hasFrz1 a
def lastWr (r:Rid):Wr→Option (Option Root)
 | []=>none
 |(q,x) :: wr=>match lastWr r wr with
  | some y=>some y
  | none=>if r=q then some x else none
def ppRes (ms:List (Bool × Nat)) (wr:Wr) (i0:Nat) (args outs:List AV) (k c:Nat) (p:Path) (i j:Nat):Option AV:=
 match ms[k]?,args[k]?,outs[k]? with
 | some (true,_),some (.ptr r0 none 0 j0),some (.wptr ds)=>match ds[c]?,lastWr r0 wr with
  | some (.row sz0 xs0),some (some (.box cs))=>match subRow sz0 xs0 [] p,cs[j0 + c]? with
   | some (szp,ysp),some (.ref r none _ 0 _ _)=>if r % 2=1∧r / 2 / 4096=i0 then
     match lastWr r wr with
     | some (some (.row sz xs []))=>match subRow sz xs [] p with
      | some (sz',ys)=>if sz=sz0∧sz'=szp∧i < ys.length then some (.ptr r p i j) else none
      | none=>none
     | _=>none
    else none
   | _,_=>none
  | _,_=>none
 | _,_,_=>none
def matA (ms:List (Bool × Nat)) (wr:Wr) (args outs:List AV) (i n:Nat):AV→Option (AV × Wr × Nat)
 | .pp k c p i1 j=>match ppRes ms wr i args outs k c p i1 j with
  | some a=>some (a,[],n)
  | none=>none
 | a=>some (mat i n a)
def callEff (s:St) (i:Nat) (f:FuncId) (args:List AV) (rs ws:List Rid) (res:AV) (outs:List AV):Option Eff:=
 if passOK rs ws && (isNilL rs || !(hasFrz res || outs.any hasFrz)) then
  match backAll s.h i 0 (M f) args outs with
  | some (w,n)=>match matA (M f) w args outs i n res with
   | none=>none
   | some (a,w',n')=>if n' < 4096 then some { out:=a,wr:=w++w',rd:=rs++ws } else none
  | none=>none
 else none
def aexec (s:St) (i:Nat) (o:Oper) (k:Eff→Prop):Prop:=
 if isCall o then
  match o.op with
  | .call c=>match calleeAV s c with
   | some (f,args)=>match passAll s.h (M f) args with
    | some (as,rs,ws)=>∃ res outs,C f as res outs∧(match callEff M s i f args rs ws res outs with
     | some e=>e.ok∧k e
     | none=>False)
    | none=>False
   | none=>False
  | _=>False
 else match aop T s i o with
  | some e=>e.ok∧k e
  | none=>False
def guardAV (all:Array Oper) (j:Nat) (s:St):Option AV:=
 match (all[j]?).bind (·.dst) with
 | some d=>look d s.t
 | none=>none
def aops (all:Array Oper):List Oper→Nat→St→Log→(St→Log→Prop)→Prop
 | [],_,s,l,Q=>Q s l
 | o :: os,i,s,l,Q=>
  match o.guard with
  | none=>aexec T M C s i o fun e=>aops all os (i + 1) (s.apply o.dst e) ((i,e.rd,e.wr.map (·.1)) :: l) Q
  | some (j,want)=>match guardAV all j s with
   | some (.bool b)=>(b=want→aexec T M C s i o fun e=>aops all os (i + 1) (s.apply o.dst e) ((i,e.rd,e.wr.map (·.1)) :: l) Q)∧
     (b = !want→aops all os (i + 1) (s.skip o.dst) l Q)
   | some .undef=>aops all os (i + 1) (s.skip o.dst) l Q
   | _=>False
def rounds (B:St→(Out→Prop)→Prop) (Q:Out→Prop):Nat→St→Prop
 | 0,_=>False
 | n + 1,s=>B s fun o=>match o with
  | .norm s'=>rounds B Q n s'
  | .exit i s'=>Q (.exit i s')
  | .ret s'=>Q (.ret s')
def ALoop (B:St→(Out→Prop)→Prop) (Q:Out→Prop) (s:St):Prop:=∃ n,rounds B Q n s
def behind (c:Cfg) (id:Nat) (s:St):St:=match look id c.l with | some l=>keepOnly l s | none=>s
def behindTest (c:Cfg) (x:Operand) (s:St):St:=match x with
 | .tmp k=>if memR k c.cx then s else { s with t:=del k s.t }
 | _=>s
def awp (c:Cfg):Code→St→(Out→Prop)→Prop
 | .skip,s,Q=>Q (.norm s)
 | .region _ ops draw,s,Q=>aops T M C ops ops.toList 0 s [] fun s' l=>(draw=true→indep ops l=true)∧Q (.norm (finish c s'))
 | .seq a b,s,Q=>awp c a s fun o=>match o with | .norm s'=>awp c b s' Q | .exit i s'=>Q (.exit i s') | .ret s'=>Q (.ret s')
 | .cond x a b,s,Q=>match s.ev x with
  | some (.bool t)=>(t=true→awp c a (behindTest c x s) Q)∧(t=false→awp c b (behindTest c x s) Q)
  | _=>False
 | .block id b,s,Q=>awp c b s fun o=>match o with
  | .exit i s'=>if i=id then Q (.norm (behind c id s')) else Q (.exit i s')
  | .norm s'=>Q (.norm (behind c id s'))
  | .ret s'=>Q (.ret s')
 | .loop b,s,Q=>ALoop (fun s Q=>awp c b s Q) Q s
 | .exit id,s,Q=>Q (.exit id s)
 | .ret,s,Q=>Q (.ret s)
 | _,_,_=>False
def enterCells (k:Nat):Nat→List AV→List AV × Heap
 | _,[]=>([],[])
 | m, .row sz xs :: cs=>match enterCells k (m + 1) cs with | (as,h)=>(.ref (rv k (m + 1)) none sz 0 xs.length none :: as,(rv k (m + 1), .row sz xs []) :: h)
 | m,a :: cs=>match enterCells k (m + 1) cs with | (as,h)=>(a :: as,h)
def enter1 (k:Nat):AV→AV × Heap
 | .row sz xs=>(.ref (rv k 0) none sz 0 xs.length none,[(rv k 0, .row sz xs [])])
 | .wptr cs=>match enterCells k 0 cs with | (as,h)=>(.ptr (rv k 0) none 0 0,(rv k 0, .box as) :: h)
 | .agg cs=>match enterCells k 0 cs with | (as,h)=>(.agg as,h)
 | a=>(a,[])
def enter:Nat→List AV→List (Nat × AV) × Heap
 | _,[]=>([],[])
 | k,a :: as=>match enter1 k a with | (b,h)=>match enter (k + 1) as with | (bs,h')=>((k,b) :: bs,h++h')
def leaveCell (h:Heap):AV→Option (AV × Heap)
 | .ref r none sz 0 n _=>match look r h with
  | some (.row sz' xs _)=>if xs.length=n∧sz'=sz then some (.row sz xs,del r h) else none
  | _=>none
 | .int k n=>some (.int k n,h)
 | .bool b=>some (.bool b,h)
 | .str l=>some (.str l,h)
 | .frz sz nl xs=>some (.frz sz nl xs,h)
 | .unk=>some (.unk,h)
 | .nilp=>some (.nilp,h)
 | .fptr cs=>some (.fptr cs,h)
 | .fn f []=>some (.fn f [],h)
 | _=>none
def leaveCells (h:Heap):List AV→Option (List AV × Heap)
 | []=>some ([],h)
 | a :: cs=>match leaveCell h a with
  | some (d,h1)=>match leaveCells h1 cs with
   | some (ds,h')=>some (d :: ds,h')
   | none=>none
  | none=>none
def leave1 (h:Heap):AV→Option (AV × Heap)
 | .agg cs=>match leaveCells h cs with
  | some (ds,h')=>some (.agg ds,h')
  | none=>none
 | a=>leaveCell h a
def leaveList (h:Heap):List AV→Option (List AV × Heap)
 | []=>some ([],h)
 | a :: as=>match leave1 h a with
  | some (b,h')=>match leaveList h' as with
   | some (bs,h'')=>some (b :: bs,h'')
   | none=>none
  | none=>none
def outCells:Heap→List AV→List AV→List AV × Heap
 | h, .row _ _ :: cs, .ref r none _ 0 n _ :: ds=>match look r h with
  | some (.row sz xs _)=>if xs.length=n then (match outCells (del r h) cs ds with | (os,h')=>(.row sz xs :: os,h')) else (match outCells h cs ds with | (os,h')=>(.unk :: os,h'))
  | _=>match outCells h cs ds with | (os,h')=>(.unk :: os,h')
 | h,_ :: cs,_ :: ds=>match outCells h cs ds with | (os,h')=>(.unk :: os,h')
 | h,cs,_=>(cs.map fun _ => .unk,h)
def out1 (t:List (Nat × AV)) (h:Heap) (k:Nat):AV→AV × Heap
 | .row _ _=>match look k t with
  | some (.ref r none _ 0 n _)=>if r=rv k 0 then (match look r h with
   | some (.row sz xs _)=>if xs.length=n then (.row sz xs,del r h) else (.unk,h)
   | _=>(.unk,h)) else (.unk,h)
  | _=>(.unk,h)
 | .wptr _=>match look k t with
  | some (.ptr r none 0 0)=>if r=rv k 0 then (match look r h with
   | some (.box cs)=>(match leaveCells (del r h) cs with
    | some (ds,h')=>(.wptr ds,h')
    | none=>(.unk,h))
   | _=>(.unk,h)) else (.unk,h)
  | _=>(.unk,h)
 | .agg cs=>if cs.any isRow then (match look k t with
  | some (.agg ds)=>match outCells h cs ds with | (os,h')=>(.agg os,h')
  | _=>(.unk,h)) else (.unk,h)
 | _=>(.unk,h)
def outs (t:List (Nat × AV)) (h:Heap):Nat→List AV→List AV
 | _,[] => []
 | k,a :: as=>match out1 t h k a with | (b,h')=>b :: outs t h' (k + 1) as
def resVals (T:Types) (s:St):List ResultVar→Option (List AV)
 | []=>some []
 | .tmp t :: rs=>match look t s.t,resVals T s rs with
  | some a,some as=>some (a :: as)
  | _,_=>none
 | .cell ad ty :: rs=>match look ad s.t with
  | some a=>match loadAV T s.h ty a,resVals T s rs with
   | some e,some as=>some (e.out :: as)
   | _,_=>none
  | none=>none
def results (T:Types) (s:St) (rs:List ResultVar):Option (AV × Heap):=
 match resVals T s rs with
 | some vs=>match leaveList s.h vs with
  | some ([v],h)=>some (v,h)
  | some (vs,h)=>some (.tup vs,h)
  | none=>none
 | none=>none
def wkC:AV→AV→Prop
 | .frz _ (some true) [], .row _ xs=>xs = []
 | a,b=>a=b
def wkCs:List AV→List AV→Prop
 | [],[]=>True
 | a :: as,b :: bs=>wkC a b∧wkCs as bs
 | _,_=>False
def wk1:AV→AV→Prop
 | .agg as, .agg bs=>wkCs as bs
 | a,b=>wkC a b
def wks:List AV→List AV→Prop
 | [],[]=>True
 | a :: as,b :: bs=>wk1 a b∧wks as bs
 | _,_=>False
def wk:AV→AV→Prop
 | .tup as, .tup bs=>wks as bs
 | a,b=>wk1 a b
def wko1:AV→AV→Prop
 | .wptr as, .wptr bs=>wkCs as bs
 | _, .unk=>True
 | a,b=>a=b
def wko:List AV→List AV→Prop
 | [],[]=>True
 | a :: as,b :: bs=>wko1 a b∧wko as bs
 | _,_=>False
def noGrant:AV→Bool
 | .row _ _=>false
 | .wptr _=>false
 | .agg cs => !cs.any isRow
 | _=>true
def ptrRes (T:Types) (s:St) (rs:List ResultVar) (args:List AV):Option (AV × Heap):=
 if args.all noGrant=true then match resVals T s rs with
  | some [.ptr r none 0 0]=>match look r s.h with
   | some (.box (c :: cs))=>match leaveCells (del r s.h) (c :: cs) with
    | some (ds,h')=>some (.wptr ds,h')
    | none=>none
   | _=>none
  | _=>none
 else none
def resultsA (T:Types) (s:St) (rs:List ResultVar) (args:List AV):Option (AV × Heap):=
 match results T s rs with
 | some x=>some x
 | none=>ptrRes T s rs args
def isWptr (args:List AV) (k:Nat):Bool:=match args[k]? with
 | some (.wptr _)=>true
 | _=>false
def ppEnds (T:Types) (s:St) (rs:List ResultVar) (k c:Nat) (p:Path) (i j:Nat) (os:List AV):Prop:=
 match resVals T s rs,look k s.t,os[k]? with
 | some [.ptr r p' i' j'],some (.ptr q none 0 0),some (.wptr ds)=>match look q s.h,ds[c]? with
  | some (.box cs),some (.row sz xs)=>match cs[c]?,look r s.h,subRow sz xs [] p with
   | some (.ref r2 none _ 0 _ _),some (.row sz2 xs2 dt),some (sz',_)=>match subRow sz2 xs2 dt p with
    | some (sz3,ys)=>r2=r∧p'=p∧i'=i∧j'=j∧sz2=sz∧sz3=sz'∧i < ys.length
    | none=>False
   | _,_,_=>False
  | _,_=>False
 | _,_,_=>False
def Ends (T:Types) (rs:List ResultVar) (args:List AV) (res:AV) (os:List AV) (s:St):Prop:=
 match resultsA T s rs args with
 | some (v,h)=>wk v res∧wko (outs s.t h 0 args) os
 | none=>match res with
  | .pp k c p i j=>ppEnds T s rs k c p i j os∧isWptr args k=true∧wko (outs s.t s.h 0 args) os
  | _=>False
def Fin (T:Types) (rs:List ResultVar) (args:List AV) (res:AV) (os:List AV):Out→Prop
 | .exit _ _=>False
 | .norm s=>Ends T rs args res os s
 | .ret s=>Ends T rs args res os s
def dstOps (p:Nat→Bool) (n:Nat) (ops:Array Oper):Bool:=ops.toList.all fun o=>match o.dst with | some d=>decide (d < n) && !p d | none=>true
def dstOK (p:Nat→Bool) (n:Nat):Code→Bool
 | .region _ ops _=>dstOps p n ops
 | .seq a b=>dstOK p n a && dstOK p n b
 | .cond _ a b=>dstOK p n a && dstOK p n b
 | .block _ b=>dstOK p n b
 | .loop b=>dstOK p n b
 | _=>true
def Runs (fn:Func) (c:Cfg) (args:List AV) (res:AV) (os:List AV):Prop:=
 match fn.body with
 | some b=>awp T M C c b ⟨(enter 0 args).1,(enter 0 args).2,false⟩ (Fin T fn.results.toList args res os)
 | none=>False
end

inductive Fr where
 | code (c:Code)
 | block (id:Nat)
 | again (b:Code) (n:Nat)
section
variable (T:Types) (M:Modes) (C:FuncId→List AV→AV→List AV→Prop) (c:Cfg) (F:Out→Prop)
def PK:List Fr→Out→Prop
 | [],o=>F o
 | .code d :: K,o=>match o with
  | .norm s=>awp T M C c d s (PK K)
  | .exit i s=>PK K (.exit i s)
  | .ret s=>PK K (.ret s)
 | .block id :: K,o=>match o with
  | .norm s=>PK K (.norm (behind c id s))
  | .exit i s=>if i=id then PK K (.norm (behind c id s)) else PK K (.exit i s)
  | .ret s=>PK K (.ret s)
 | .again b n :: K,o=>match o with
  | .norm s=>rounds (fun s Q=>awp T M C c b s Q) (PK K) n s
  | .exit i s=>PK K (.exit i s)
  | .ret s=>PK K (.ret s)
def A (d:Code) (K:List Fr) (s:St):Prop:=awp T M C c d s (PK T M C c F K)
def AL (b:Code) (K:List Fr) (s:St):Prop:=ALoop (fun s Q=>awp T M C c b s Q) (PK T M C c F K) s
def AR (b:Code) (K:List Fr) (n:Nat) (s:St):Prop:=rounds (fun s Q=>awp T M C c b s Q) (PK T M C c F K) n s
def AO (all:Array Oper) (draw:Bool) (os:List Oper) (i:Nat) (l:Log) (K:List Fr) (s:St):Prop:=
 aops T M C all os i s l fun s' l=>(draw=true→indep all l=true)∧PK T M C c F K (.norm (finish c s'))
def AX (all:Array Oper) (draw:Bool) (o:Oper) (os:List Oper) (i:Nat) (l:Log) (K:List Fr) (s:St):Prop:=
 aexec T M C s i o fun e=>AO T M C c F all draw os (i + 1) ((i,e.rd,e.wr.map (·.1)) :: l) K (s.apply o.dst e)
def AC (f:FuncId) (as:List AV) (rs ws:List Rid) (args:List AV) (all:Array Oper) (draw:Bool) (dst:Option Tmp) (os:List Oper) (i:Nat) (l:Log) (K:List Fr) (s:St):Prop:=
 ∃ res outs,C f as res outs∧(match callEff M s i f args rs ws res outs with
  | some e=>e.ok∧AO T M C c F all draw os (i + 1) ((i,e.rd,e.wr.map (·.1)) :: l) K (s.apply dst e)
  | none=>False)
def IndepOK (all:Array Oper) (l:Log):Prop:=indep all l=true
def AE (all:Array Oper) (draw:Bool) (dst:Option Tmp) (os:List Oper) (i:Nat) (l:Log) (K:List Fr) (s:St) (e:Option Eff):Prop:=
 match e with
 | some e=>e.ok∧AO T M C c F all draw os (i + 1) ((i,e.rd,e.wr.map (·.1)) :: l) K (s.apply dst e)
 | none=>False
def ABr (t:Bool) (a b:Code) (K:List Fr) (s:St):Prop:=(t=true→A T M C c F a K s)∧(t=false→A T M C c F b K s)
def AGd (t w:Bool) (all:Array Oper) (draw:Bool) (o:Oper) (os:List Oper) (i:Nat) (l:Log) (K:List Fr) (s:St):Prop:=
 (t=w→AX T M C c F all draw o os i l K s)∧(t = !w→AO T M C c F all draw os (i + 1) l K (s.skip o.dst))
variable {T M C c F}
theorem A_skip {K s}:A T M C c F .skip K s=PK T M C c F K (.norm s):=rfl
theorem A_ret {K s}:A T M C c F .ret K s=PK T M C c F K (.ret s):=rfl
theorem A_exit {id K s}:A T M C c F (.exit id) K s=PK T M C c F K (.exit id s):=rfl
theorem A_region {id ops draw K s}:A T M C c F (.region id ops draw) K s=AO T M C c F ops draw ops.toList 0 [] K s:=rfl
theorem A_seq {a b K s}:A T M C c F (.seq a b) K s=A T M C c F a (.code b :: K) s:=by
 unfold A
 rw [show awp T M C c (.seq a b) s (PK T M C c F K)=awp T M C c a s (fun o=>match o with | .norm s'=>awp T M C c b s' (PK T M C c F K) | .exit i s'=>PK T M C c F K (.exit i s') | .ret s'=>PK T M C c F K (.ret s')) from rfl]
 congr 1
theorem A_block {id b K s}:A T M C c F (.block id b) K s=A T M C c F b (.block id :: K) s:=by
 unfold A
 show awp T M C c b s _=awp T M C c b s _
 congr 1
 funext o
 cases o<;>rfl
theorem A_loop {b K s}:A T M C c F (.loop b) K s=AL T M C c F b K s:=rfl
theorem A_cond {x a b K s}:A T M C c F (.cond x a b) K s=(match s.ev x with
  | some (.bool t)=>ABr T M C c F t a b K (behindTest c x s)
  | _=>False):=rfl
theorem AR_zero {b K s}:AR T M C c F b K 0 s=False:=rfl
theorem AR_succ {b K n s}:AR T M C c F b K (n + 1) s=A T M C c F b (.again b n :: K) s:=by
 unfold A AR
 show awp T M C c b s _=awp T M C c b s _
 congr 1
theorem AL_of {b K s} (n:Nat) (h:AR T M C c F b K n s):AL T M C c F b K s:=⟨n,h⟩
theorem PK_nil {o}:PK T M C c F [] o=F o:=rfl
theorem PK_code_norm {d K s}:PK T M C c F (.code d :: K) (.norm s)=A T M C c F d K s:=rfl
theorem PK_code_exit {d K i s}:PK T M C c F (.code d :: K) (.exit i s)=PK T M C c F K (.exit i s):=rfl
theorem PK_code_ret {d K s}:PK T M C c F (.code d :: K) (.ret s)=PK T M C c F K (.ret s):=rfl
theorem PK_block_norm {id K s}:PK T M C c F (.block id :: K) (.norm s)=PK T M C c F K (.norm (behind c id s)):=rfl
theorem PK_block_exit {id K i s}:PK T M C c F (.block id :: K) (.exit i s)=if i=id then PK T M C c F K (.norm (behind c id s)) else PK T M C c F K (.exit i s):=rfl
theorem PK_block_ret {id K s}:PK T M C c F (.block id :: K) (.ret s)=PK T M C c F K (.ret s):=rfl
theorem PK_again_norm {b n K s}:PK T M C c F (.again b n :: K) (.norm s)=AR T M C c F b K n s:=rfl
theorem PK_again_exit {b n K i s}:PK T M C c F (.again b n :: K) (.exit i s)=PK T M C c F K (.exit i s):=rfl
theorem PK_again_ret {b n K s}:PK T M C c F (.again b n :: K) (.ret s)=PK T M C c F K (.ret s):=rfl
theorem AO_nil_quiet {all i l K s}:AO T M C c F all false [] i l K s=PK T M C c F K (.norm (finish c s)):=by
 unfold AO
 simp [aops]
theorem AO_nil_draw {all i l K s}:AO T M C c F all true [] i l K s=(IndepOK all l∧PK T M C c F K (.norm (finish c s))):=by
 unfold AO IndepOK
 simp [aops]
theorem AO_cons {all draw d op t p af os i l K s}:AO T M C c F all draw (⟨d,op,t,p,af,none⟩ :: os) i l K s=AX T M C c F all draw ⟨d,op,t,p,af,none⟩ os i l K s:=rfl
theorem AO_cons_guard {all draw d op t p af j w os i l K s}:AO T M C c F all draw (⟨d,op,t,p,af,some (j,w)⟩ :: os) i l K s =
  (match guardAV all j s with
   | some (.bool b)=>AGd T M C c F b w all draw ⟨d,op,t,p,af,some (j,w)⟩ os i l K s
   | some .undef=>AO T M C c F all draw os (i + 1) l K (s.skip d)
   | _=>False):=rfl
theorem AX_move {all draw d x t p af g os i l K s}:AX T M C c F all draw ⟨d, .move x,t,p,af,g⟩ os i l K s=AE T M C c F all draw d os i l K s (aop T s i ⟨d, .move x,t,p,af,g⟩):=rfl
theorem AX_assign {all draw d x t p af g os i l K s}:AX T M C c F all draw ⟨d, .assign x,t,p,af,g⟩ os i l K s=AE T M C c F all draw d os i l K s (aop T s i ⟨d, .assign x,t,p,af,g⟩):=rfl
theorem AX_pick {all draw d x y z t p af g os i l K s}:AX T M C c F all draw ⟨d, .pick x y z,t,p,af,g⟩ os i l K s=AE T M C c F all draw d os i l K s (aop T s i ⟨d, .pick x y z,t,p,af,g⟩):=rfl
theorem AX_alloc {all draw d e t p af g os i l K s}:AX T M C c F all draw ⟨d, .alloc e,t,p,af,g⟩ os i l K s=AE T M C c F all draw d os i l K s (aop T s i ⟨d, .alloc e,t,p,af,g⟩):=rfl
theorem AX_box {all draw d e x t p af g os i l K s}:AX T M C c F all draw ⟨d, .box e x,t,p,af,g⟩ os i l K s=AE T M C c F all draw d os i l K s (aop T s i ⟨d, .box e x,t,p,af,g⟩):=rfl
theorem AX_build {all draw d u ps t p af g os i l K s}:AX T M C c F all draw ⟨d, .build u ps,t,p,af,g⟩ os i l K s=AE T M C c F all draw d os i l K s (aop T s i ⟨d, .build u ps,t,p,af,g⟩):=rfl
theorem AX_buildSlice {all draw d u n ps t p af g os i l K s}:AX T M C c F all draw ⟨d, .buildSlice u n ps,t,p,af,g⟩ os i l K s=AE T M C c F all draw d os i l K s (aop T s i ⟨d, .buildSlice u n ps,t,p,af,g⟩):=rfl
theorem AX_makeSlice {all draw d u x y t p af g os i l K s}:AX T M C c F all draw ⟨d, .makeSlice u x y,t,p,af,g⟩ os i l K s=AE T M C c F all draw d os i l K s (aop T s i ⟨d, .makeSlice u x y,t,p,af,g⟩):=rfl
theorem AX_load {all draw d u x t p af g os i l K s}:AX T M C c F all draw ⟨d, .load u x,t,p,af,g⟩ os i l K s=AE T M C c F all draw d os i l K s (aop T s i ⟨d, .load u x,t,p,af,g⟩):=rfl
theorem AX_store {all draw d u x y t p af g os i l K s}:AX T M C c F all draw ⟨d, .store u x y,t,p,af,g⟩ os i l K s=AE T M C c F all draw d os i l K s (aop T s i ⟨d, .store u x y,t,p,af,g⟩):=rfl
theorem AX_nilCheck {all draw d x t p af g os i l K s}:AX T M C c F all draw ⟨d, .nilCheck x,t,p,af,g⟩ os i l K s=AE T M C c F all draw d os i l K s (aop T s i ⟨d, .nilCheck x,t,p,af,g⟩):=rfl
theorem AX_fieldAddr {all draw d u x f t p af g os i l K s}:AX T M C c F all draw ⟨d, .fieldAddr u x f,t,p,af,g⟩ os i l K s=AE T M C c F all draw d os i l K s (aop T s i ⟨d, .fieldAddr u x f,t,p,af,g⟩):=rfl
theorem AX_field {all draw d u x f t p af g os i l K s}:AX T M C c F all draw ⟨d, .field u x f,t,p,af,g⟩ os i l K s=AE T M C c F all draw d os i l K s (aop T s i ⟨d, .field u x f,t,p,af,g⟩):=rfl
theorem AX_indexAddr {all draw d u x y t p af g os i l K s}:AX T M C c F all draw ⟨d, .indexAddr u x y,t,p,af,g⟩ os i l K s=AE T M C c F all draw d os i l K s (aop T s i ⟨d, .indexAddr u x y,t,p,af,g⟩):=rfl
theorem AX_index {all draw d u x y t p af g os i l K s}:AX T M C c F all draw ⟨d, .index u x y,t,p,af,g⟩ os i l K s=AE T M C c F all draw d os i l K s (aop T s i ⟨d, .index u x y,t,p,af,g⟩):=rfl
theorem AX_slice {all draw d u x y z m t p af g os i l K s}:AX T M C c F all draw ⟨d, .slice u x y z m,t,p,af,g⟩ os i l K s=AE T M C c F all draw d os i l K s (aop T s i ⟨d, .slice u x y z m,t,p,af,g⟩):=rfl
theorem AX_binOp {all draw d q u x y v t p af g os i l K s}:AX T M C c F all draw ⟨d, .binOp q u x y v,t,p,af,g⟩ os i l K s=AE T M C c F all draw d os i l K s (aop T s i ⟨d, .binOp q u x y v,t,p,af,g⟩):=rfl
theorem AX_unOp {all draw d q u x t p af g os i l K s}:AX T M C c F all draw ⟨d, .unOp q u x,t,p,af,g⟩ os i l K s=AE T M C c F all draw d os i l K s (aop T s i ⟨d, .unOp q u x,t,p,af,g⟩):=rfl
theorem AX_convert {all draw d u v x t p af g os i l K s}:AX T M C c F all draw ⟨d, .convert u v x,t,p,af,g⟩ os i l K s=AE T M C c F all draw d os i l K s (aop T s i ⟨d, .convert u v x,t,p,af,g⟩):=rfl
theorem AX_makeFunc {all draw d f x y t p af g os i l K s}:AX T M C c F all draw ⟨d, .makeFunc f x y,t,p,af,g⟩ os i l K s=AE T M C c F all draw d os i l K s (aop T s i ⟨d, .makeFunc f x y,t,p,af,g⟩):=rfl
theorem AX_extract {all draw d x k t p af g os i l K s}:AX T M C c F all draw ⟨d, .extract x k,t,p,af,g⟩ os i l K s=AE T M C c F all draw d os i l K s (aop T s i ⟨d, .extract x k,t,p,af,g⟩):=rfl
theorem AX_builtin {all draw d b args at_ t p af g os i l K s}:AX T M C c F all draw ⟨d, .call ⟨.builtin b,args,at_⟩,t,p,af,g⟩ os i l K s=AE T M C c F all draw d os i l K s (aop T s i ⟨d, .call ⟨.builtin b,args,at_⟩,t,p,af,g⟩):=rfl
theorem AX_call {all draw d f args at_ t p af g os i l K s}:AX T M C c F all draw ⟨d, .call ⟨.value f,args,at_⟩,t,p,af,g⟩ os i l K s =
  (match s.ev f,evList s args.toList with
   | some (.fn f caps),some as=>match passAll s.h (M f) (as++caps) with
    | some (as',rs,ws)=>AC T M C c F f as' rs ws (as++caps) all draw d os i l K s
    | none=>False
   | _,_=>False):=by
 unfold AX AC aexec
 simp only [isCall,if_true,calleeAV]
 cases s.ev f with
 | none=>rfl
 | some v=>
  cases v<;>cases evList s args.toList<;>rfl
theorem ABr_intro {t a b K s} (h:t=true→A T M C c F a K s) (h':t=false→A T M C c F b K s):ABr T M C c F t a b K s:=⟨h,h'⟩
theorem ABr_dec {p:Prop} [Decidable p] {a b K s} (h:p→A T M C c F a K s) (h':¬ p→A T M C c F b K s):ABr T M C c F (decide p) a b K s:=⟨fun e=>h (of_decide_eq_true e),fun e=>h' (of_decide_eq_false e)⟩
theorem AGd_intro {t w all draw o os i l K s} (h:t=true→AGd T M C c F true w all draw o os i l K s) (h':t=false→AGd T M C c F false w all draw o os i l K s):AGd T M C c F t w all draw o os i l K s:=by
 cases t
 ·exact h' rfl
 ·exact h rfl
theorem AGd_dec {p:Prop} [Decidable p] {w all draw o os i l K s} (h:p→AGd T M C c F true w all draw o os i l K s) (h':¬ p→AGd T M C c F false w all draw o os i l K s):AGd T M C c F (decide p) w all draw o os i l K s:=by
 by_cases hp:p
 ·rw [decide_eq_true hp]
  exact h hp
 ·rw [decide_eq_false hp]
  exact h' hp
theorem ABr_true {a b K s}:ABr T M C c F true a b K s=A T M C c F a K s:=by simp [ABr]
theorem ABr_false {a b K s}:ABr T M C c F false a b K s=A T M C c F b K s:=by simp [ABr]
theorem ABr_not {t a b K s}:ABr T M C c F (!t) a b K s=ABr T M C c F t b a K s:=by
 cases t<;>simp [ABr_true,ABr_false]
theorem ABr_yes {p:Prop} [Decidable p] {a b K s} (h:p):ABr T M C c F (decide p) a b K s=A T M C c F a K s:=by rw [decide_eq_true h,ABr_true]
theorem ABr_no {p:Prop} [Decidable p] {a b K s} (h:¬ p):ABr T M C c F (decide p) a b K s=A T M C c F b K s:=by rw [decide_eq_false h,ABr_false]
theorem AGd_tt {all draw o os i l K s}:AGd T M C c F true true all draw o os i l K s=AX T M C c F all draw o os i l K s:=by simp [AGd]
theorem AGd_ff {all draw o os i l K s}:AGd T M C c F false false all draw o os i l K s=AX T M C c F all draw o os i l K s:=by simp [AGd]
theorem AGd_tf {all draw d op t p af g os i l K s}:AGd T M C c F true false all draw ⟨d,op,t,p,af,g⟩ os i l K s=AO T M C c F all draw os (i + 1) l K (s.skip d):=by simp [AGd]
theorem AGd_ft {all draw d op t p af g os i l K s}:AGd T M C c F false true all draw ⟨d,op,t,p,af,g⟩ os i l K s=AO T M C c F all draw os (i + 1) l K (s.skip d):=by simp [AGd]
theorem AGd_yes {p:Prop} [Decidable p] {w all draw o os i l K s} (h:p):AGd T M C c F (decide p) w all draw o os i l K s=AGd T M C c F true w all draw o os i l K s:=by rw [decide_eq_true h]
theorem AGd_no {p:Prop} [Decidable p] {w all draw o os i l K s} (h:¬ p):AGd T M C c F (decide p) w all draw o os i l K s=AGd T M C c F false w all draw o os i l K s:=by rw [decide_eq_false h]
theorem AGd_nyes {p:Prop} [Decidable p] {w all draw o os i l K s} (h:p):AGd T M C c F (!decide p) w all draw o os i l K s=AGd T M C c F false w all draw o os i l K s:=by rw [decide_eq_true h];rfl
theorem AGd_nno {p:Prop} [Decidable p] {w all draw o os i l K s} (h:¬ p):AGd T M C c F (!decide p) w all draw o os i l K s=AGd T M C c F true w all draw o os i l K s:=by rw [decide_eq_false h];rfl
theorem AGd_is_t {t w all draw o os i l K s} (h:t=true):AGd T M C c F t w all draw o os i l K s=AGd T M C c F true w all draw o os i l K s:=by rw [h]
theorem AGd_is_f {t w all draw o os i l K s} (h:t=false):AGd T M C c F t w all draw o os i l K s=AGd T M C c F false w all draw o os i l K s:=by rw [h]
theorem AGd_nis_t {t w all draw o os i l K s} (h:t=true):AGd T M C c F (!t) w all draw o os i l K s=AGd T M C c F false w all draw o os i l K s:=by rw [h];rfl
theorem AGd_nis_f {t w all draw o os i l K s} (h:t=false):AGd T M C c F (!t) w all draw o os i l K s=AGd T M C c F true w all draw o os i l K s:=by rw [h];rfl
theorem ABr_is_t {t a b K s} (h:t=true):ABr T M C c F t a b K s=A T M C c F a K s:=by rw [h,ABr_true]
theorem ABr_is_f {t a b K s} (h:t=false):ABr T M C c F t a b K s=A T M C c F b K s:=by rw [h,ABr_false]
theorem AE_some {all draw dst os i l K s e}:AE T M C c F all draw dst os i l K s (some e)=(e.ok∧AO T M C c F all draw os (i + 1) ((i,e.rd,e.wr.map (·.1)) :: l) K (s.apply dst e)):=rfl
theorem AE_none {all draw dst os i l K s}:AE T M C c F all draw dst os i l K s none=False:=rfl
theorem AC_of {f as rs ws args all draw dst os i l K s} {res:AV} {outs:List AV} (h:C f as res outs)
  (hk:AE T M C c F all draw dst os i l K s (callEff M s i f args rs ws res outs)):AC T M C c F f as rs ws args all draw dst os i l K s:=
 ⟨res,outs,h,hk⟩
end

theorem cell_of_heap {w:World} {b:Nat} {cs:Array Value} {ty:TypeId} {fr:Nat × Nat} (h:w.heap[b]? = some (.cells cs ty fr)) (o:Nat):w.cell? ⟨b,o,none⟩=cs[o]?:=by
 simp [World.cell?,h]
theorem cell_congr {w w':World} {b:Nat} (h:w'.heap[b]? = w.heap[b]?) (o:Nat):w'.cell? ⟨b,o,none⟩=w.cell? ⟨b,o,none⟩:=by
 simp [World.cell?,h]
theorem lt_of_heap {w:World} {b:Nat} {o:Obj} (h:w.heap[b]? = some o):b < w.heap.size:=(Array.getElem?_eq_some_iff.1 h).1
theorem lt_of_cell {w:World} {b o:Nat} {v:Value} (h:w.cell? ⟨b,o,none⟩=some v):b < w.heap.size:=by
 rcases Nat.lt_or_ge b w.heap.size with h' | h'
 ·exact h'
 ·simp [World.cell?,Array.getElem?_eq_none h'] at h
def Thaw (cs:Array Value) (fr:Nat × Nat):Prop:=∀ k,k < cs.size→¬ (fr.1≤k∧k < fr.2)
theorem idx_lt {i n j sz cap m:Nat} (hi:i < n) (hj:j < sz) (hn:n≤cap) (hc:cap * sz≤m):i * sz + j < m:=by
 have h1:(i + 1) * sz≤cap * sz:=Nat.mul_le_mul_right _ (by omega)
 rw [Nat.add_mul] at h1
 omega
theorem idx_inj {i j i' j' sz:Nat} (hj:j < sz) (hj':j' < sz) (h:i * sz + j=i' * sz + j'):i=i'∧j=j':=by
 have h1:i=i':=by
  have a1:(i * sz + j) / sz=i:=by
   rw [Nat.mul_comm,Nat.mul_add_div (by omega)]
   simp [Nat.div_eq_of_lt hj]
  have a2:(i' * sz + j') / sz=i':=by
   rw [Nat.mul_comm,Nat.mul_add_div (by omega)]
   simp [Nat.div_eq_of_lt hj']
  rw [←a1,←a2,h]
 subst h1
 exact ⟨rfl,by omega⟩
theorem lt_len {α:Type} {xs:List α} {i:Nat} {x:α} (h:xs[i]? = some x):i < xs.length:=(List.getElem?_eq_some_iff.1 h).1
inductive OC (w:World):(Nat→Prop)→AV→Value→Prop
 | int {F} (k n):OC w F (.int k n) (.int k n)
 | bool {F} (b):OC w F (.bool b) (.bool b)
 | str {F} {s:ByteArray} {l:List UInt8} (h:s.data.toList=l):OC w F (.str l) (.string s)
 | unk {F} {v} (h:v.oneCell'=true):OC w F .unk v
 | nil {F} (sz):OC w F (.row sz []) (.slice none 0 0)
 | row {F:Nat→Prop} {sz:Nat} {xs:List (List AV)} {g cap:Nat} {cs:Array Value} {ty:TypeId} {fr:Nat × Nat} (Fs:Nat→Nat→Nat→Prop)
   (hh:w.heap[g]? = some (.cells cs ty fr)) (ht:Thaw cs fr) (hcap:cap * sz≤cs.size) (hlen:xs.length≤cap) (hg:F g)
   (hsub:∀ i j b,Fs i j b→F b∧b≠g) (hdis:∀ i j i' j' b,Fs i j b→Fs i' j' b→i=i'∧j=j')
   (hsz:∀ (i:Nat) (c:List AV),xs[i]? = some c→c.length=sz)
   (hc:∀ (i j:Nat) (c:List AV) (a:AV) (v:Value),xs[i]? = some c→c[j]? = some a→cs[i * sz + j]? = some v→OC w (Fs i j) a v) :
   OC w F (.row sz xs) (.slice (some ⟨g,0,none⟩) xs.length cap)
theorem OC.mono {w:World} {F F':Nat→Prop} {a:AV} {v:Value} (h:OC w F a v) (hF:∀ b,F b→F' b):OC w F' a v:=by
 cases h with
 | int=>exact .int _ _
 | bool=>exact .bool _
 | str h=>exact .str h
 | unk h=>exact .unk h
 | nil=>exact .nil _
 | row Fs hh ht hcap hlen hg hsub hdis hsz hc=>exact .row Fs hh ht hcap hlen (hF _ hg) (fun i j b hb=>⟨hF _ (hsub i j b hb).1,(hsub i j b hb).2⟩) hdis hsz hc
theorem OC.move {w w':World} {F:Nat→Prop} {a:AV} {v:Value} (h:OC w F a v):(∀ b,F b→w'.heap[b]? = w.heap[b]?)→OC w' F a v:=by
 induction h with
 | int=>intro _;exact .int _ _
 | bool=>intro _;exact .bool _
 | str h=>intro _;exact .str h
 | unk h=>intro _;exact .unk h
 | nil=>intro _;exact .nil _
 | row Fs hh ht hcap hlen hg hsub hdis hsz hc ih=>
  intro hm
  exact .row Fs ((hm _ hg).trans hh) ht hcap hlen hg hsub hdis hsz (fun i j c a v h1 h2 h3=>ih i j c a v h1 h2 h3 (fun b hb=>hm b (hsub i j b hb).1))
theorem OC.bound {w:World} {F:Nat→Prop} {a:AV} {v:Value} (h:OC w F a v):OC w (fun b=>F b∧b < w.heap.size) a v:=by
 induction h with
 | int=>exact .int _ _
 | bool=>exact .bool _
 | str h=>exact .str h
 | unk h=>exact .unk h
 | nil=>exact .nil _
 | row Fs hh ht hcap hlen hg hsub hdis hsz hc ih=>
  exact .row (fun i j b=>Fs i j b∧b < w.heap.size) hh ht hcap hlen ⟨hg,lt_of_heap hh⟩
   (fun i j b hb=>⟨⟨(hsub i j b hb.1).1,hb.2⟩,(hsub i j b hb.1).2⟩) (fun i j i' j' b h1 h2=>hdis i j i' j' b h1.1 h2.1) hsz ih
inductive FC (w:World) (S:Nat→Prop):AV→Value→Prop
 | int (k n):FC w S (.int k n) (.int k n)
 | bool (b):FC w S (.bool b) (.bool b)
 | str {s:ByteArray} {l:List UInt8} (h:s.data.toList=l):FC w S (.str l) (.string s)
 | unk {v} (h:v.oneCell'=true):FC w S .unk v
 | nil (sz):FC w S (.row sz []) (.slice none 0 0)
 | row {sz:Nat} {xs:List (List AV)} {A:Addr} {cap:Nat} (vs:Nat→Nat→Value) (hlen:xs.length≤cap)
   (hsz:∀ (i:Nat) (c:List AV),xs[i]? = some c→c.length=sz)
   (hv:∀ (i j:Nat) (c:List AV) (a:AV),xs[i]? = some c→c[j]? = some a→A.spot=none∧S A.block∧w.cell? ⟨A.block,A.off + (i * sz + j),none⟩=some (vs i j))
   (hc:∀ (i j:Nat) (c:List AV) (a:AV),xs[i]? = some c→c[j]? = some a→FC w S a (vs i j)) :
   FC w S (.row sz xs) (.slice (some A) xs.length cap)
theorem FC.move {w w':World} {S S':Nat→Prop} {a:AV} {v:Value} (h:FC w S a v) (hm:∀ b,S b→b < w.heap.size→S' b∧w'.heap[b]? = w.heap[b]?):FC w' S' a v:=by
 induction h with
 | int=>exact .int _ _
 | bool=>exact .bool _
 | str h=>exact .str h
 | unk h=>exact .unk h
 | nil=>exact .nil _
 | row vs hlen hsz hv hc ih=>
  refine .row vs hlen hsz (fun i j c a h1 h2 => ?_) (fun i j c a h1 h2=>ih i j c a h1 h2)
  obtain ⟨h3,h4,h5⟩:=hv i j c a h1 h2
  obtain ⟨h6,h7⟩:=hm _ h4 (lt_of_cell h5)
  exact ⟨h3,h6,(cell_congr h7 _).trans h5⟩
theorem FC.mono {w:World} {S S':Nat→Prop} {a:AV} {v:Value} (h:FC w S a v) (hm:∀ b,S b→S' b):FC w S' a v:=h.move fun b hb _=>⟨hm b hb,rfl⟩
theorem OC.read {w:World} {F S:Nat→Prop} {a:AV} {v:Value} (h:OC w F a v):(∀ b,F b→S b)→FC w S a v:=by
 induction h with
 | int=>intro _;exact .int _ _
 | bool=>intro _;exact .bool _
 | str h=>intro _;exact .str h
 | unk h=>intro _;exact .unk h
 | nil=>intro _;exact .nil _
 | @row F sz xs g cap cs ty fr Fs hh ht hcap hlen hg hsub hdis hsz hc ih=>
  intro hS
  refine .row (fun i j=>cs.getD (i * sz + j) undef) hlen hsz (fun i j c a h1 h2 => ?_) (fun i j c a h1 h2 => ?_)
  ·have hlt:i * sz + j < cs.size:=idx_lt (lt_len h1) (by have:=lt_len h2;have:=hsz i c h1;omega) hlen hcap
   refine ⟨rfl,hS _ hg,?_⟩
   rw [cell_of_heap hh]
   simp [hlt]
  ·have hlt:i * sz + j < cs.size:=idx_lt (lt_len h1) (by have:=lt_len h2;have:=hsz i c h1;omega) hlen hcap
   have hv:cs[i * sz + j]? = some (cs.getD (i * sz + j) undef):=by simp [hlt]
   exact ih i j c a _ h1 h2 hv (fun b hb=>hS b (hsub i j b hb).1)
theorem FC.one {w:World} {S:Nat→Prop} {a:AV} {v:Value} (h:FC w S a v):v.oneCell'=true:=by
 cases h<;>first | rfl | assumption
theorem OC.one {w:World} {S:Nat→Prop} {a:AV} {v:Value} (h:OC w S a v):v.oneCell'=true:=by
 cases h<;>first | rfl | assumption
def nilV:Value→Bool
 | .slice none _ _=>true
 | _=>false
inductive FV (w:World) (S:Nat→Prop):AV→Value→Prop
 | int (k n):FV w S (.int k n) (.int k n)
 | bool (b):FV w S (.bool b) (.bool b)
 | str {s:ByteArray} {l:List UInt8} (h:s.data.toList=l):FV w S (.str l) (.string s)
 | unk {v} (h:v.oneCell'=true):FV w S .unk v
 | undef:FV w S .undef undef
 | nilp:FV w S .nilp (.pointer none)
 | frz {sz:Nat} {nl:Option Bool} {xs:List (List AV)} {v:Value} (h:FC w S (.row sz xs) v) (hn:∀ b:Bool,nl=some b→nilV v=b):FV w S (.frz sz nl xs) v
 | fptr {cs:List AV} {A:Addr} (vs:Nat→Value) (ha:A.spot=none) (hv:∀ (k:Nat) (a:AV),cs[k]? = some a→S A.block∧w.cell? ⟨A.block,A.off + k,none⟩=some (vs k))
   (hc:∀ (k:Nat) (a:AV),cs[k]? = some a→FV w S a (vs k)):FV w S (.fptr cs) (.pointer (some A))
 | fn {f:FuncId} {cap:List AV} {vs:Array Value} (hn:vs.size=cap.length) (hc:∀ (k:Nat) (a:AV) (v:Value),cap[k]? = some a→vs[k]? = some v→FV w S a v):FV w S (.fn f cap) (.func (.func f) #[] vs)
 | agg {cs:List AV} {vs:Array Value} (hn:vs.size=cs.length) (hc:∀ (k:Nat) (a:AV) (v:Value),cs[k]? = some a→vs[k]? = some v→FV w S a v):FV w S (.agg cs) (.agg vs)
theorem FV.move {w w':World} {S S':Nat→Prop} {a:AV} {v:Value} (h:FV w S a v) (hm:∀ b,S b→b < w.heap.size→S' b∧w'.heap[b]? = w.heap[b]?):FV w' S' a v:=by
 induction h with
 | int=>exact .int _ _
 | bool=>exact .bool _
 | str h=>exact .str h
 | unk h=>exact .unk h
 | undef=>exact .undef
 | nilp=>exact .nilp
 | frz h hn=>exact .frz (h.move hm) hn
 | fptr vs ha hv hc ih=>
  refine .fptr vs ha (fun k a h1 => ?_) ih
  obtain ⟨h4,h5⟩:=hv k a h1
  obtain ⟨h6,h7⟩:=hm _ h4 (lt_of_cell h5)
  exact ⟨h6,(cell_congr h7 _).trans h5⟩
 | fn hn hc ih=>exact .fn hn ih
 | agg hn hc ih=>exact .agg hn ih

structure Fix where
 P:Program
 T:Types
 w0:World
 S:Nat→Prop
 Chg:Nat→Nat→Prop
abbrev Rho:=Rid→Option Nat × Nat
def addrOf (b:Option Nat):Option Addr:=b.map fun g=>⟨g,0,none⟩
def hdr (bc:Option Nat × Nat) (sz off n:Nat) (v:Value):Prop:=
 ∃ A cap,v = .slice A n cap∧(off=0→A=addrOf bc.1∧cap=bc.2)∧(0 < n→∃ g,bc.1=some g∧A=some ⟨g,off * sz,none⟩)
def placeAt (w:World) (bc:Option Nat × Nat) (sz:Nat):Path→Option Nat × Nat→Prop
 | none,bc'=>bc'=bc
 | some (i,j),bc'=>∃ g n,bc.1=some g∧w.cell? ⟨g,i * sz + j,none⟩=some (.slice (addrOf bc'.1) n bc'.2)
def refAt (w:World) (h:Heap) (ρ:Rho) (r:Rid) (p:Path) (bc:Option Nat × Nat):Prop:=
 match look r h with
 | some (.row sz xs dt)=>placeAt w (ρ r) sz p bc
 | _=>False
def ptrAt (w:World) (h:Heap) (ρ:Rho) (r:Rid) (p:Path) (i g o:Nat):Prop:=
 match look r h with
 | some (.box cs)=>p=none∧i=0∧ρ r=(some g,o)
 | some (.row sz xs dt)=>∃ sz' ys bc,subRow sz xs dt p=some (sz',ys)∧placeAt w (ρ r) sz p bc∧bc.1=some g∧o=i * sz'
 | none=>False
inductive VA (w:World) (S:Nat→Prop) (h:Heap) (ρ:Rho):AV→Value→Prop
 | fv {a v} (hf:FV w S a v):VA w S h ρ a v
 | ref {r:Rid} {p:Path} {sz off n:Nat} {nl:Option Bool} {v:Value}
   (hr:∀ sz' ys,getRow h r p=some (sz',ys)→sz'=sz∧off + n≤ys.length∧∃ bc,refAt w h ρ r p bc∧hdr bc sz off n v)
   (hn:∀ b:Bool,nl=some b→nilV v=b) (hv:∃ A c,v = .slice A n c∧n≤c∧(A=none→c=0)):VA w S h ρ (.ref r p sz off n nl) v
 | ptr {r:Rid} {p:Path} {i j:Nat} {v:Value}
   (hp:∀ c,getChunk h r p i=some c→∃ g o,ptrAt w h ρ r p i g o∧v = .pointer (some ⟨g,o + j,none⟩))
   (hv:∃ A,v = .pointer (some A)):VA w S h ρ (.ptr r p i j) v
inductive VB (w:World) (S:Nat→Prop) (h:Heap) (ρ:Rho):AV→Value→Prop
 | up {a v} (ha:VA w S h ρ a v):VB w S h ρ a v
 | agg {cs:List AV} {vs:Array Value} (hn:vs.size=cs.length) (hc:∀ (k:Nat) (a:AV) (v:Value),cs[k]? = some a→vs[k]? = some v→VA w S h ρ a v):VB w S h ρ (.agg cs) (.agg vs)
 | fn {f:FuncId} {cs:List AV} {vs:Array Value} (hn:vs.size=cs.length) (hc:∀ (k:Nat) (a:AV) (v:Value),cs[k]? = some a→vs[k]? = some v→VA w S h ρ a v):VB w S h ρ (.fn f cs) (.func (.func f) #[] vs)
inductive VR (w:World) (S:Nat→Prop) (h:Heap) (ρ:Rho):AV→Value→Prop
 | up {a v} (ha:VB w S h ρ a v):VR w S h ρ a v
 | tup {cs:List AV} {vs:Array Value} (hn:vs.size=cs.length) (hc:∀ (k:Nat) (a:AV) (v:Value),cs[k]? = some a→vs[k]? = some v→VB w S h ρ a v):VR w S h ρ (.tup cs) (.tuple vs)
def Compat (w:World) (h:Heap) (ρ:Rho) (w':World) (h':Heap) (ρ':Rho) (r:Rid):Prop:=
 (∀ p sz ys',getRow h' r p=some (sz,ys')→∃ ys,getRow h r p=some (sz,ys)∧ys.length≤ys'.length∧∀ bc,refAt w h ρ r p bc→refAt w' h' ρ' r p bc)∧
 (∀ p i c',getChunk h' r p i=some c'→(∃ c,getChunk h r p i=some c)∧∀ g o,ptrAt w h ρ r p i g o→ptrAt w' h' ρ' r p i g o)
theorem placeAt_move {w w':World} {bc bc':Option Nat × Nat} {sz:Nat} {p:Path} (hb:∀ g,bc.1=some g→w'.heap[g]? = w.heap[g]?) (h:placeAt w bc sz p bc'):placeAt w' bc sz p bc':=by
 cases p with
 | none=>exact h
 | some q=>
  obtain ⟨i,j⟩:=q
  obtain ⟨g,n,h1,h2⟩:=h
  exact ⟨g,n,h1,(cell_congr (hb g h1) _).trans h2⟩
theorem Compat.still {w w':World} {h h':Heap} {ρ ρ':Rho} {r:Rid} (hl:look r h'=look r h) (hρ:ρ' r=ρ r) (hb:∀ g,(ρ r).1=some g→(look r h).isSome→w'.heap[g]? = w.heap[g]?):Compat w h ρ w' h' ρ' r:=by
 constructor
 ·intro p sz ys' hg
  refine ⟨ys',?_,Nat.le_refl _,fun bc hr => ?_⟩
  ·simpa [getRow,hl] using hg
  ·unfold refAt at *
   rw [hl,hρ]
   cases hk:look r h with
   | none=>simp [hk] at hr
   | some x=>
    cases x with
    | box cs=>simp [hk] at hr
    | row sz xs dt=>
     simp only [hk] at hr ⊢
     exact placeAt_move (fun g hg=>hb g hg (by simp [hk])) hr
 ·intro p i c' hg
  refine ⟨⟨c',by simpa [getChunk,hl] using hg⟩,fun g o hp => ?_⟩
  unfold ptrAt at *
  rw [hl,hρ]
  cases hk:look r h with
  | none=>simp [hk] at hp
  | some x=>
   cases x with
   | box cs=>simpa [hk] using hp
   | row sz xs dt=>
    simp only [hk] at hp ⊢
    obtain ⟨sz',ys,bc,h1,h2,h3,h4⟩:=hp
    exact ⟨sz',ys,bc,h1,placeAt_move (fun g hg=>hb g hg (by simp [hk])) h2,h3,h4⟩
theorem Compat.gone {w w':World} {h h':Heap} {ρ ρ':Rho} {r:Rid} (hl:look r h'=none):Compat w h ρ w' h' ρ' r:=by
 constructor
 ·intro p sz ys' hg;simp [getRow,hl] at hg
 ·intro p i c' hg;simp [getChunk,hl] at hg
theorem VA.upd {w w':World} {S:Nat→Prop} {h h':Heap} {ρ ρ':Rho} {a:AV} {v:Value} (hS:∀ b,S b→b < w.heap.size→w'.heap[b]? = w.heap[b]?)
  (hc:∀ r ∈ rid1 a,Compat w h ρ w' h' ρ' r) (hv:VA w S h ρ a v):VA w' S h' ρ' a v:=by
 cases hv with
 | fv hf=>exact .fv (hf.move fun b hb hl=>⟨hb,hS b hb hl⟩)
 | @ref r p sz off n nl _ hr hn hv=>
  have hC:=hc r (by simp [rid1])
  refine .ref (fun sz' ys' hg => ?_) hn hv
  obtain ⟨ys,h1,h2,h3⟩:=hC.1 p sz' ys' hg
  obtain ⟨h4,h5,bc,h6,h7⟩:=hr sz' ys h1
  exact ⟨h4,by omega,bc,h3 bc h6,h7⟩
 | @ptr r p i j _ hp hv=>
  have hC:=hc r (by simp [rid1])
  refine .ptr (fun c' hg => ?_) hv
  obtain ⟨⟨c,h1⟩,h2⟩:=hC.2 p i c' hg
  obtain ⟨g,o,h3,h4⟩:=hp c h1
  exact ⟨g,o,h2 g o h3,h4⟩
theorem VB.upd {w w':World} {S:Nat→Prop} {h h':Heap} {ρ ρ':Rho} {a:AV} {v:Value} (hS:∀ b,S b→b < w.heap.size→w'.heap[b]? = w.heap[b]?)
  (hc:∀ r ∈ rid2 a,Compat w h ρ w' h' ρ' r) (hv:VB w S h ρ a v):VB w' S h' ρ' a v:=by
 cases hv with
 | up ha=>
  refine .up ?_
  cases ha with
  | fv hf=>exact .fv (hf.move fun b hb hl=>⟨hb,hS b hb hl⟩)
  | ref hr hn hv=>exact VA.upd hS (by simpa [rid1,rid2] using hc) (.ref hr hn hv)
  | ptr hp hv=>exact VA.upd hS (by simpa [rid1,rid2] using hc) (.ptr hp hv)
 | agg hn hv=>exact .agg hn (fun k a v h1 h2=>(hv k a v h1 h2).upd hS (fun r hr=>hc r (by simp only [rid2,List.mem_flatMap];exact ⟨a,List.mem_of_getElem? h1,hr⟩)))
 | fn hn hv=>exact .fn hn (fun k a v h1 h2=>(hv k a v h1 h2).upd hS (fun r hr=>hc r (by simp only [rid2,List.mem_flatMap];exact ⟨a,List.mem_of_getElem? h1,hr⟩)))
theorem VR.upd {w w':World} {S:Nat→Prop} {h h':Heap} {ρ ρ':Rho} {a:AV} {v:Value} (hS:∀ b,S b→b < w.heap.size→w'.heap[b]? = w.heap[b]?)
  (hc:∀ r ∈ rids a,Compat w h ρ w' h' ρ' r) (hv:VR w S h ρ a v):VR w' S h' ρ' a v:=by
 cases hv with
 | up ha=>
  refine .up ?_
  cases ha with
  | up ha=>
   refine .up ?_
   cases ha with
   | fv hf=>exact .fv (hf.move fun b hb hl=>⟨hb,hS b hb hl⟩)
   | ref hr hn hv=>exact VA.upd hS (by simpa [rid1,rid2,rids] using hc) (.ref hr hn hv)
   | ptr hp hv=>exact VA.upd hS (by simpa [rid1,rid2,rids] using hc) (.ptr hp hv)
  | agg hn hv=>exact VB.upd hS (by simpa [rids] using hc) (.agg hn hv)
  | fn hn hv=>exact VB.upd hS (by simpa [rids] using hc) (.fn hn hv)
 | tup hn hv=>exact .tup hn (fun k a v h1 h2=>(hv k a v h1 h2).upd hS (fun r hr=>hc r (by simp only [rids,List.mem_flatMap];exact ⟨a,List.mem_of_getElem? h1,hr⟩)))
def ObjSame (Chg:Nat→Prop) (o o':Option Obj):Prop:=
 o'=o∨∃ c c' ty fr,o=some (.cells c ty fr)∧o'=some (.cells c' ty fr)∧c'.size=c.size∧∀ k,¬ Chg k→c'[k]? = c[k]?
theorem ObjSame.trans {C:Nat→Prop} {a b c:Option Obj} (h:ObjSame C a b) (h':ObjSame C b c):ObjSame C a c:=by
 rcases h with rfl | ⟨c1,c2,ty,fr,rfl,rfl,h1,h2⟩
 ·exact h'
 ·rcases h' with rfl | ⟨c1',c2',ty',fr',h3,rfl,h4,h5⟩
  ·exact .inr ⟨c1,c2,ty,fr,rfl,rfl,h1,h2⟩
  ·injection h3 with h3
   injection h3 with e1 e2 e3
   subst e1 e2 e3
   exact .inr ⟨c1,c2',ty,fr,rfl,rfl,h4.trans h1,fun k hk=>(h5 k hk).trans (h2 k hk)⟩
def RowOK (X:Fix) (w:World) (F:Nat→Prop) (bc:Option Nat × Nat) (sz:Nat) (xs:List (List AV)):Prop:=
 (∃ g,bc.1=some g∧OC w F (.row sz xs) (.slice (some ⟨g,0,none⟩) xs.length bc.2)∧∀ b,F b→X.w0.heap.size≤b∨∀ k,X.Chg b k)∨(bc=(none,0)∧xs = [])
def BoxOK (X:Fix) (w:World) (h:Heap) (ρ:Rho) (F:Nat→Prop) (bc:Option Nat × Nat) (cs:List AV):Prop:=
 ∃ g vs ty fr,bc.1=some g∧w.heap[g]? = some (.cells vs ty fr)∧Thaw vs fr∧bc.2 + cs.length≤vs.size∧F g∧(∀ b,F b→b=g)∧
  (∀ k,k < cs.length→X.w0.heap.size≤g∨X.Chg g (bc.2 + k))∧∀ k a,cs[k]? = some a→∃ v,vs[bc.2 + k]? = some v∧VB w X.S h ρ a v
def RootOK (X:Fix) (w:World) (h:Heap) (ρ:Rho) (F:Nat→Prop) (bc:Option Nat × Nat):Root→Prop
 | .row sz xs _=>RowOK X w F bc sz xs
 | .box cs=>BoxOK X w h ρ F bc cs
structure Mem (X:Fix) (h:Heap) (ρ:Rho) (Fr:Rid→Nat→Prop) (w:World):Prop where
 os:w.os=X.w0.os
 tape:w.tape=X.w0.tape
 out:w.output=X.w0.output
 size:X.w0.heap.size≤w.heap.size
 frame:∀ b,b < X.w0.heap.size→ObjSame (X.Chg b) X.w0.heap[b]? w.heap[b]?
 root:∀ r x,look r h=some x→RootOK X w h ρ (Fr r) (ρ r) x
 foot:∀ r x b,look r h=some x→Fr r b→b < w.heap.size∧¬ X.S b
 disj:∀ r x r' x' b,look r h=some x→look r' h=some x'→Fr r b→Fr r' b→r=r'
def LabR (D:Nat→Prop) (r:Rid):Prop:=isTemp r=true→∃ i k,r=rt i k∧k < 4096∧D i
def Men (s:St) (r:Rid):Prop:=(∃ k v,look k s.t=some v∧r ∈ rids v)∨∃ q x,look q s.h=some x∧(r=q∨r ∈ ridsBox x)
def Lab (D:Nat→Prop) (s:St):Prop:=∀ r,Men s r→LabR D r
def Tmps (X:Fix) (t:List (Nat × AV)) (h:Heap) (ρ:Rho) (w:World) (a:Act):Prop:=
 ∀ k v,look k t=some v→k < a.tmps.size∧VR w X.S h ρ v (a.tmps.getD k undef)
def Sim (X:Fix) (D:Nat→Prop) (s:St) (a:Act) (w:World):Prop:=
 Lab D s∧(∀ b,X.S b→b < X.w0.heap.size∧∀ k,¬ X.Chg b k)∧∃ ρ Fr,Mem X s.h ρ Fr w∧Tmps X s.t s.h ρ w a
theorem mem_ridsT {t:List (Nat × AV)} {k:Nat} {v:AV} (h:look k t=some v):∀ r ∈ rids v,r ∈ ridsT t:=by
 induction t with
 | nil=>simp [look] at h
 | cons e t ih=>
  obtain ⟨k',v'⟩:=e
  simp only [look] at h
  intro r hr
  simp only [ridsT,List.mem_append]
  split at h
  ·injection h with h
   exact .inl (h ▸ hr)
  ·exact .inr (ih h r hr)
theorem mem_ridsH {t:Heap} {k:Nat} {x:Root} (h:look k t=some x):∀ r ∈ ridsBox x,r ∈ ridsH t:=by
 induction t with
 | nil=>simp [look] at h
 | cons e t ih=>
  obtain ⟨k',v'⟩:=e
  simp only [look] at h
  intro r hr
  simp only [ridsH,List.mem_append]
  split at h
  ·injection h with h
   exact .inl (h ▸ hr)
  ·exact .inr (ih h r hr)
theorem rt_inj {i k i' k':Nat} (hk:k < 4096) (hk':k' < 4096) (h:rt i k=rt i' k'):i=i'∧k=k':=by
 have h':(2 * (4096 * i + k) + 1:Nat)=2 * (4096 * i' + k') + 1:=h
 omega
theorem isTemp_rt (i k:Nat):isTemp (rt i k)=true:=by
 have:(2 * (4096 * i + k) + 1:Nat) % 2=1:=by omega
 simp [isTemp,rt,this]
theorem isTemp_rv (i k:Nat):isTemp (rv i k)=false:=by
 unfold isTemp rv
 simp
theorem Mem.step {X:Fix} {h h':Heap} {ρ ρ':Rho} {Fr Fr':Rid→Nat→Prop} {w w':World} (W:Rid→Prop) (m:Mem X h ρ Fr w)
  (hS:∀ b,X.S b→b < w.heap.size→w'.heap[b]? = w.heap[b]?)
  (hos:w'.os=w.os) (htape:w'.tape=w.tape) (hout:w'.output=w.output) (hsize:w.heap.size≤w'.heap.size)
  (hframe:∀ b,b < w.heap.size→b < X.w0.heap.size→ObjSame (X.Chg b) w.heap[b]? w'.heap[b]?)
  (un:∀ r,¬ W r→look r h'=look r h∧ρ' r=ρ r∧Fr' r=Fr r)
  (unb:∀ r x b,¬ W r→look r h=some x→Fr r b→w'.heap[b]? = w.heap[b]?)
  (aff:∀ r x,W r→look r h'=some x→RootOK X w' h' ρ' (Fr' r) (ρ' r) x)
  (foot:∀ r x b,W r→look r h'=some x→Fr' r b→b < w'.heap.size∧¬ X.S b)
  (disj:∀ r x r' x' b,W r→look r h'=some x→look r' h'=some x'→Fr' r b→Fr' r' b→r=r')
  (hcm:∀ r x q,¬ W r→look r h=some x→q ∈ ridsBox x→Compat w h ρ w' h' ρ' q):Mem X h' ρ' Fr' w' where
 os:=hos.trans m.os
 tape:=htape.trans m.tape
 out:=hout.trans m.out
 size:=Nat.le_trans m.size hsize
 frame:=fun b hb=>(m.frame b hb).trans (hframe b (Nat.lt_of_lt_of_le hb m.size) hb)
 root:=by
  intro r x hr
  by_cases hW:W r
  ·exact aff r x hW hr
  ·obtain ⟨h1,h2,h3⟩:=un r hW
   rw [h1] at hr
   have hx:=m.root r x hr
   rw [h2,h3]
   have hm:∀ b,Fr r b→w'.heap[b]? = w.heap[b]?:=fun b hb=>unb r x b hW hr hb
   cases x with
   | row sz xs dt=>
    rcases hx with ⟨g,h4,h5,h6⟩ | h4
    ·exact .inl ⟨g,h4,h5.move hm,h6⟩
    ·exact .inr h4
   | box cs=>
    obtain ⟨g,vs,ty,fr,h4,h5,h6,h7,h8,h8',h9,h10⟩:=hx
    refine ⟨g,vs,ty,fr,h4,(hm g h8).trans h5,h6,h7,h8,h8',h9,fun k a hk => ?_⟩
    obtain ⟨v,h11,h12⟩:=h10 k a hk
    exact ⟨v,h11,h12.upd hS (fun q hq=>hcm r _ q hW hr (by simp only [ridsBox,List.mem_flatMap];exact ⟨a,List.mem_of_getElem? hk,hq⟩))⟩
 foot:=by
  intro r x b hr hb
  by_cases hW:W r
  ·exact foot r x b hW hr hb
  ·obtain ⟨h1,h2,h3⟩:=un r hW
   rw [h1] at hr
   rw [h3] at hb
   have:=m.foot r x b hr hb
   exact ⟨by omega,this.2⟩
 disj:=by
  intro r x r' x' b hr hr' hb hb'
  by_cases hW:W r
  ·exact disj r x r' x' b hW hr hr' hb hb'
  ·by_cases hW':W r'
   ·exact (disj r' x' r x b hW' hr' hr hb' hb).symm
   ·obtain ⟨h1,h2,h3⟩:=un r hW
    obtain ⟨h1',h2',h3'⟩:=un r' hW'
    rw [h1] at hr
    rw [h1'] at hr'
    rw [h3] at hb
    rw [h3'] at hb'
    exact m.disj r x r' x' b hr hr' hb hb'

def ZeroOK:AV→Value→Prop
 | .int k n, .int k' n'=>k'=k∧n'=n
 | .bool b, .bool b'=>b'=b
 | .str l, .string s=>s.data.toList=l
 | .frz _ nl xs, .slice a n c=>a=none∧n=0∧c=0∧nl=some true∧xs = []
 | .nilp, .pointer a=>a=none
 | .unk,v=>v.oneCell'=true
 | _,_=>False
structure EqTy (P:Program) (t:TypeId) (fields:Array Field):Prop where
 stood:P.stoodInHeld t=false
 guard:P.eqGuardType P.depth t=false
 flat:∀ f ∈ fields.toList,f.name≠"_"
 offs:fields.toList.map (·.offset)=List.range fields.size
def KOK (P:Program) (t:TypeId):TK→TypeDesc→Prop
 | .int k, .int k'=>k'=k
 | .bool, .bool=>True
 | .str, .string=>True
 | .slice e, .slice e'=>e'=e
 | .struct fs eq, .struct fields=>fields.toList.map (fun f=>(f.offset,f.type))=fs∧(∀ f ∈ fields.toList,∃ i,P.info? f.type=some i∧i.size≠0)∧(eq=true→EqTy P t fields)
 | .arr n e, .array n' e'=>n'=n∧e'=e
 | .ptr e, .pointer e'=>e'=e
 | .other, .func ..=>True
 | _,_=>False
structure TIok (P:Program) (t:TypeId) (ti:TI) (i:TypeInfo) (d:TypeDesc) (z:Value):Prop where
 info:P.info? t=some i
 und:P.underlying t=some d
 zero:i.zero=some z
 size:i.size=ti.size
 bytes:i.bytes≤65536
 zsize:z.cells.size=ti.size
 zlen:ti.zero.length=ti.size
 zok:∀ (k:Nat) (a:AV) (v:Value),ti.zero[k]? = some a→z.cells[k]? = some v→ZeroOK a v
 kok:KOK P t ti.k d
def TOk (P:Program) (T:Types):Prop:=∀ t ti,T t=some ti→∃ i d z,TIok P t ti i d z
section
variable {P:Program} {t:TypeId} {ti:TI} {i:TypeInfo} {d:TypeDesc} {z:Value}
theorem TIok.run_underlying (h:TIok P t ti i d z) (w:World):(underlying t).run P w = .ok d w:=Go.run_underlying h.und w
theorem TIok.run_isAgg (h:TIok P t ti i d z) (w:World):(isAgg t).run P w = .ok ti.isAgg w:=by
 have hk:=h.kok
 simp only [isAgg,Sem.run_bind,h.run_underlying,Result.andThen_ok]
 cases hti:ti.k<;>cases d<;>simp [KOK,hti] at hk<;>simp [TI.isAgg,hti]
theorem TIok.run_sizeOf (h:TIok P t ti i d z) (w:World):(sizeOf t).run P w = .ok ti.size w:=by
 simp [sizeOf,typeInfo,h.info,h.size]
theorem TIok.run_zero (h:TIok P t ti i d z) (w:World):(zeroValue t).run P w = .ok z w:=by
 simp [zeroValue,typeInfo,h.info,h.zero]
end
theorem ZeroOK.fv {w:World} {S:Nat→Prop} {a:AV} {v:Value} (h:ZeroOK a v):FV w S a v:=by
 cases a<;>cases v<;>simp only [ZeroOK] at h
 case int.int=>obtain ⟨rfl,rfl⟩:=h;exact .int _ _
 case bool.bool=>subst h;exact .bool _
 case str.string=>exact .str h
 case frz.slice=>obtain ⟨rfl,rfl,rfl,rfl,rfl⟩:=h;exact .frz (.nil _) (fun b hb=>by simpa [nilV] using hb)
 case nilp.pointer=>subst h;exact .nilp
 all_goals first | exact .unk h | exact h.elim
theorem ZeroOK.oc {w:World} {F:Nat→Prop} {a:AV} {v:Value} (h:ZeroOK a v):OC w F (toRow a) v:=by
 cases a<;>cases v<;>simp only [ZeroOK] at h
 case int.int=>obtain ⟨rfl,rfl⟩:=h;exact .int _ _
 case bool.bool=>subst h;exact .bool _
 case str.string=>exact .str h
 case frz.slice=>obtain ⟨rfl,rfl,rfl,rfl,rfl⟩:=h;exact .nil _
 case nilp.pointer=>exact .unk rfl
 all_goals first | exact .unk h | exact h.elim
theorem ZeroOK.one {a:AV} {v:Value} (h:ZeroOK a v):v.oneCell'=true:=by
 cases a<;>cases v<;>simp only [ZeroOK] at h<;>first | rfl | exact h.elim | exact h
section
variable {w:World} {S:Nat→Prop} {h:Heap} {ρ:Rho} {v:Value}
theorem VR.int_inv {k n} (hv:VR w S h ρ (.int k n) v):v = .int k n:=by
 cases hv with | up hv=>cases hv with | up hv=>cases hv with | fv hv=>cases hv;rfl
theorem VR.bool_inv {b} (hv:VR w S h ρ (.bool b) v):v = .bool b:=by
 cases hv with | up hv=>cases hv with | up hv=>cases hv with | fv hv=>cases hv;rfl
theorem VR.str_inv {l} (hv:VR w S h ρ (.str l) v):∃ s,v = .string s∧s.data.toList=l:=by
 cases hv with | up hv=>cases hv with | up hv=>cases hv with | fv hv=>cases hv with | str hs=>exact ⟨_,rfl,hs⟩
theorem VR.frz_inv {sz nl xs} (hv:VR w S h ρ (.frz sz nl xs) v):FC w S (.row sz xs) v∧∀ b:Bool,nl=some b→nilV v=b:=by
 cases hv with | up hv=>cases hv with | up hv=>cases hv with | fv hv=>cases hv with | frz h1 h2=>exact ⟨h1,h2⟩
theorem VR.nilp_inv (hv:VR w S h ρ .nilp v):v = .pointer none:=by
 cases hv with | up hv=>cases hv with | up hv=>cases hv with | fv hv=>cases hv;rfl
theorem VR.undef_inv (hv:VR w S h ρ .undef v):v=Go.undef:=by
 cases hv with | up hv=>cases hv with | up hv=>cases hv with | fv hv=>cases hv;rfl
theorem VR.ref_inv {r p sz off n nl} (hv:VR w S h ρ (.ref r p sz off n nl) v):VA w S h ρ (.ref r p sz off n nl) v:=by
 cases hv with | up hv=>cases hv with | up hv=>exact hv
theorem VR.ptr_inv {r p i j} (hv:VR w S h ρ (.ptr r p i j) v):VA w S h ρ (.ptr r p i j) v:=by
 cases hv with | up hv=>cases hv with | up hv=>exact hv
theorem VR.fptr_inv {cs} (hv:VR w S h ρ (.fptr cs) v):FV w S (.fptr cs) v:=by
 cases hv with | up hv=>cases hv with | up hv=>cases hv with | fv hv=>exact hv
theorem VB.agg_inv {cs} (hv:VB w S h ρ (.agg cs) v):∃ vs,v = .agg vs∧vs.size=cs.length∧∀ (k:Nat) (a:AV) (v:Value),cs[k]? = some a→vs[k]? = some v→VA w S h ρ a v:=by
 cases hv with
 | up hv=>cases hv with | fv hv=>cases hv with | agg h1 h2=>exact ⟨_,rfl,h1,fun k a v e1 e2 => .fv (h2 k a v e1 e2)⟩
 | agg h1 h2=>exact ⟨_,rfl,h1,h2⟩
theorem VR.agg_inv {cs} (hv:VR w S h ρ (.agg cs) v):∃ vs,v = .agg vs∧vs.size=cs.length∧∀ (k:Nat) (a:AV) (v:Value),cs[k]? = some a→vs[k]? = some v→VA w S h ρ a v:=by
 cases hv with | up hv=>exact hv.agg_inv
theorem VR.fn_inv {f cs} (hv:VR w S h ρ (.fn f cs) v):∃ vs,v = .func (.func f) #[] vs∧vs.size=cs.length∧∀ (k:Nat) (a:AV) (v:Value),cs[k]? = some a→vs[k]? = some v→VA w S h ρ a v:=by
 cases hv with
 | up hv=>cases hv with
  | up hv=>cases hv with | fv hv=>cases hv with | fn h1 h2=>exact ⟨_,rfl,h1,fun k a v e1 e2 => .fv (h2 k a v e1 e2)⟩
  | fn h1 h2=>exact ⟨_,rfl,h1,h2⟩
theorem VR.tup_inv {cs} (hv:VR w S h ρ (.tup cs) v):∃ vs,v = .tuple vs∧vs.size=cs.length∧∀ (k:Nat) (a:AV) (v:Value),cs[k]? = some a→vs[k]? = some v→VB w S h ρ a v:=by
 cases hv with
 | up hv=>cases hv with | up hv=>cases hv with | fv hv=>cases hv
 | tup h1 h2=>exact ⟨_,rfl,h1,h2⟩
theorem VA.one {a:AV} (hv:VA w S h ρ a v) (hs:storable a=true):v.oneCell'=true:=by
 cases hv with
 | fv hv=>
  cases hv<;>first | rfl | simp [storable] at hs | skip
  rename_i hc hn
  exact hc.one
 | ref h1 h2 h3=>obtain ⟨A,c,rfl,_⟩:=h3;rfl
 | ptr h1 h2=>obtain ⟨A,rfl⟩:=h2;rfl
theorem VR.to_va {a:AV} (hv:VR w S h ρ a v) (hs:storable a=true) (hf:∀ f cs,a ≠ .fn f cs):VA w S h ρ a v:=by
 cases hv with
 | up hv=>cases hv with
  | up hv=>exact hv
  | agg=>simp [storable] at hs
  | fn=>exact absurd rfl (hf _ _)
 | tup=>simp [storable] at hs
theorem VR.one {a:AV} (hv:VR w S h ρ a v) (hs:storable a=true):v.oneCell'=true:=by
 cases hv with
 | up hv=>cases hv with
  | up hv=>exact hv.one hs
  | agg=>simp [storable] at hs
  | fn=>rfl
 | tup=>simp [storable] at hs
theorem VR.to_vb {a:AV} (hv:VR w S h ρ a v) (hs:∀ cs,a ≠ .tup cs):VB w S h ρ a v:=by
 cases hv with
 | up hv=>exact hv
 | tup=>exact absurd rfl (hs _)
end
theorem one_cells {v:Value} (h:v.oneCell'=true):v.cells = #[v]:=by cases v<;>first | rfl | simp [Value.oneCell'] at h
section
variable {X:Fix} {s:St} {a:Act} {w:World} {ρ:Rho}
theorem const_fv {v:Value} {x:AV} (h:constAV v=some x) (w:World) (S:Nat→Prop):FV w S x v:=by
 unfold constAV at h
 split at h<;>simp only [Option.some.injEq,reduceCtorEq] at h<;>subst h
 ·exact .int _ _
 ·exact .bool _
 ·exact .str rfl
 ·exact .frz (.nil _) (fun b hb=>by simpa [nilV] using hb)
 ·exact .nilp
theorem const_rids {v:Value} {x:AV} (h:constAV v=some x):rids x = []:=by
 unfold constAV at h
 split at h<;>simp only [Option.some.injEq,reduceCtorEq] at h<;>subst h<;>rfl
theorem ev_sound {x:Operand} {v:AV} (ht:Tmps X s.t s.h ρ w a) (h:s.ev x=some v):VR w X.S s.h ρ v (a.eval x):=by
 cases x with
 | tmp k=>exact (ht k v h).2
 | const c=>exact .up (.up (.fv (const_fv h _ _)))
 | func f=>
  simp only [St.ev,Option.some.injEq] at h
  subst h
  exact .up (.up (.fv (.fn rfl (fun k a v h1 h2=>by simp at h1))))
 | global g=>simp [St.ev] at h
theorem ev_men {x:Operand} {v:AV} (h:s.ev x=some v):∀ r ∈ rids v,Men s r:=by
 cases x with
 | tmp k=>exact fun r hr => .inl ⟨k,v,h,hr⟩
 | const c=>simp [const_rids h]
 | func f=>
  simp only [St.ev,Option.some.injEq] at h
  subst h
  simp [rids,rid2]
 | global g=>simp [St.ev] at h
end
theorem look_put {β:Type} (k k':Nat) (v:β):∀ (l:List (Nat × β)),look k (put k' v l)=if k=k' then some v else look k l
 | []=>by simp [put,look]
 |(q,u) :: l=>by
  simp only [put]
  split
  ·rename_i h
   subst h
   simp only [look]
   split<;>rfl
  ·split
   ·simp only [look]
   ·simp only [look]
    split
    ·rename_i h1 h2 h3
     subst h3
     simp [Ne.symm h1]
    ·exact look_put k k' v l
theorem look_del {β:Type} (k k':Nat):∀ (l:List (Nat × β)),look k (del k' l)=if k=k' then none else look k l
 | []=>by simp [del,look]
 |(q,u) :: l=>by
  simp only [del]
  split
  ·rename_i h
   subst h
   rw [look_del k k' l]
   simp only [look]
   split<;>rfl
  ·simp only [look]
   split
   ·rename_i h1 h2
    subst h2
    simp [Ne.symm h1]
   ·exact look_del k k' l
theorem Tmps.put {X:Fix} {t:List (Nat × AV)} {h h':Heap} {ρ ρ':Rho} {w w':World} {a:Act} {dst:Option Tmp} {x:AV} {v:Value}
  (ht:Tmps X t h ρ w a) (hS:∀ b,X.S b→b < w.heap.size→w'.heap[b]? = w.heap[b]?) (hc:∀ k v,look k t=some v→∀ r ∈ rids v,Compat w h ρ w' h' ρ' r)
  (hd:∀ d,dst=some d→d < a.tmps.size) (hv:∀ d,dst=some d→VR w' X.S h' ρ' x v) :
  Tmps X (putT dst x t) h' ρ' w' (a.put dst v):=by
 intro k u hk
 cases dst with
 | none=>
  obtain ⟨h1,h2⟩:=ht k u hk
  exact ⟨h1,h2.upd hS (fun r hr=>hc _ _ hk r hr)⟩
 | some d=>
  simp only [putT,look_put] at hk
  have hd':=hd d rfl
  split at hk
  ·rename_i e
   subst e
   injection hk with hk
   subst hk
   refine ⟨by simpa [Act.put] using hd',?_⟩
   have:(a.put (some k) v).tmps.getD k Go.undef=v:=by simp [Act.put,hd']
   rw [this]
   exact hv k rfl
  ·rename_i e
   obtain ⟨h1,h2⟩:=ht k u hk
   refine ⟨by simpa [Act.put] using h1,?_⟩
   have:(a.put (some d) v).tmps.getD k Go.undef=a.tmps.getD k Go.undef:=by
    simp [Act.put,Array.getElem?_setIfInBounds_ne (Ne.symm e)]
   rw [this]
   exact h2.upd hS (fun r hr=>hc _ _ hk r hr)
def EndsOp (X:Fix) (o:Oper) (a:Act) (w:World) (Post:Value→World→Prop):Prop:=
 ∃ n v w',(execOp a.eval o).run X.P w = .ok n w'∧(n = .value v∨(n = .skip∧v=Go.undef))∧Post v w'
theorem LabR.mono {D D':Nat→Prop} {r:Rid} (h:LabR D r) (hd:∀ i,D i→D' i):LabR D' r:=fun ht=>by
 obtain ⟨i,k,h1,h2,h3⟩:=h ht
 exact ⟨i,k,h1,h2,hd i h3⟩
theorem Sim.next {X:Fix} {D D':Nat→Prop} {s:St} {a:Act} {w w':World} {dst:Option Tmp} {e:Eff} {v:Value} {ρ ρ':Rho} {Fr':Rid→Nat→Prop}
  (hl:Lab D s) (hS:∀ b,X.S b→b < X.w0.heap.size∧∀ k,¬ X.Chg b k) (ht:Tmps X s.t s.h ρ w a) (hm':Mem X (applyWr e.wr s.h) ρ' Fr' w')
  (hSw:∀ b,X.S b→b < w.heap.size→w'.heap[b]? = w.heap[b]?) (hc:∀ r,LabR D r→Compat w s.h ρ w' (applyWr e.wr s.h) ρ' r)
  (hd:∀ d,dst=some d→d < a.tmps.size) (hv:VR w' X.S (applyWr e.wr s.h) ρ' e.out v) (hD:∀ i,D i→D' i)
  (hout:∀ r ∈ rids e.out,LabR D' r) (hnew:∀ q x,look q (applyWr e.wr s.h)=some x→look q s.h=some x∨(LabR D' q∧∀ r ∈ ridsBox x,LabR D' r)) :
  Sim X D' (s.apply dst e) (a.put dst v) w':=by
 refine ⟨?_,hS,ρ',Fr',hm',ht.put hSw (fun k v hk r hr=>hc r (hl r (.inl ⟨k,v,hk,hr⟩))) hd (fun _ _=>hv)⟩
 rintro r (⟨k,u,hk,hr⟩ | ⟨q,x,hq,hr⟩)
 ·simp only [St.apply] at hk
  cases hdst:dst with
  | none=>rw [hdst] at hk;exact (hl r (.inl ⟨k,u,hk,hr⟩)).mono hD
  | some d=>
   rw [hdst] at hk
   simp only [putT,look_put] at hk
   split at hk
   ·injection hk with hk
    subst hk
    exact hout r hr
   ·exact (hl r (.inl ⟨k,u,hk,hr⟩)).mono hD
 ·rcases hnew q x hq with h1 | h1
  ·exact (hl r (.inr ⟨q,x,h1,hr⟩)).mono hD
  ·rcases hr with rfl | hr
   ·exact h1.1
   ·exact h1.2 r hr
theorem Sim.pure {X:Fix} {D:Nat→Prop} {s:St} {a:Act} {w:World} {i:Nat} {o:Oper} {x:AV} {rd:List Rid} {ok:Prop} (hs:Sim X D s a w)
  (hd:∀ d,o.dst=some d→d < a.tmps.size) (hr:∀ r ∈ rids x,Men s r)
  (hx:∀ ρ Fr,Mem X s.h ρ Fr w→Tmps X s.t s.h ρ w a→∃ v,(execOp a.eval o).run X.P w = .ok (.value v) w∧VR w X.S s.h ρ x v)
  : EndsOp X o a w fun v w'=>Sim X (fun j=>D j∨j=i) (s.apply o.dst { ok:=ok,out:=x,rd:=rd }) (a.put o.dst v) w':=by
 obtain ⟨hl,hS,ρ,Fr,hm,ht⟩:=hs
 obtain ⟨v,hv1,hv2⟩:=hx ρ Fr hm ht
 exact ⟨_,v,w,hv1, .inl rfl,Sim.next hl hS ht hm (fun _ _ _=>rfl) (fun r _=>Compat.still rfl rfl (fun _ _ _=>rfl)) hd hv2 (fun _ h => .inl h)
  (fun r h=>(hl r (hr r h)).mono fun _ h => .inl h) (fun q x h => .inl h)⟩

section
variable {P:Program} {w:World} {S:Nat→Prop}
def toV:AV→Value
 | .int k n => .int k n
 | .bool b => .bool b
 | _=>Go.undef
theorem eqGuard_plain {op:BinOp} {t:TypeId} {x y:Operand} {a b:Value} (h:a ≠ .nilIface) (h':∀ c,a ≠ .agg c) (w:World):(eqGuard op t x y a b).run P w = .ok () w:=by
 unfold eqGuard
 cases op<;>simp only [Bool.not_true,Bool.not_false,if_true,Bool.false_eq_true,if_false,Sem.run_pure]<;>
 ·split
  ·exact absurd rfl h
  ·exact absurd rfl (h' _)
  ·rfl
theorem int_beq_decide (a b:Int):(a == b)=decide (a=b):=by
 rw [Bool.eq_iff_iff,beq_iff_eq,decide_eq_true_iff]
theorem int_bne_decide (a b:Int):(a != b) = !decide (a=b):=by
 rw [bne,int_beq_decide]
theorem bool_beq_decide (a b:Bool):(a == b)=decide (a=b):=by
 cases a<;>cases b<;>rfl
theorem intBin_sound {op:BinOp} {k:IntKind} {a b:Int} {r:AV} (h:intBin op k a b=some r) (t:TypeId) (w:World) :
  (binOp op t (.int k a) (.int k b)).run P w = .ok (toV r) w∧FV w S r (toV r):=by
 cases op<;>simp only [intBin,reduceCtorEq,Option.some.injEq] at h
 case quo=>
  split at h
  ·cases h
  ·rename_i hb
   injection h with h
   subst h
   exact ⟨by simp [binOp,Op.intDiv,hb,toV], .int _ _⟩
 case rem=>
  split at h
  ·cases h
  ·rename_i hb
   injection h with h
   subst h
   exact ⟨by simp [binOp,Op.intDiv,hb,toV], .int _ _⟩
 all_goals subst h
 all_goals first
  |(refine ⟨?_, .int _ _⟩;unfold binOp;simp only [ne_eq,not_true_eq_false,if_false];rfl)
  |(refine ⟨?_, .int _ _⟩;unfold binOp;simp only [ne_eq,not_true_eq_false,if_false];rfl)
  |(refine ⟨?_, .bool _⟩;simp only [binOp,Op.intCmp,toV,ne_eq,not_true_eq_false,if_false,Sem.run_pure,int_beq_decide,int_bne_decide])
theorem shiftBin_sound {op:BinOp} {k k':IntKind} {a b:Int} {r:AV} (ho:op = .shl∨op = .shr) (h:shiftBin op k a b=some r) (t:TypeId) (w:World) :
  (binOp op t (.int k a) (.int k' b)).run P w = .ok (toV r) w∧FV w S r (toV r):=by
 rcases ho with rfl | rfl<;>simp only [shiftBin] at h<;>split at h<;>simp only [reduceCtorEq,Option.some.injEq] at h<;>subst h<;>rename_i hb
 ·exact ⟨by simp [binOp,Op.shift,hb,toV], .int _ _⟩
 ·exact ⟨by simp [binOp,Op.shift,hb,toV], .int _ _⟩
theorem list_beq_decide (a b:List UInt8):(a == b)=decide (a=b):=by
 rw [Bool.eq_iff_iff,beq_iff_eq,decide_eq_true_iff]
theorem size_data (s:ByteArray):s.size=s.data.toList.length:=(Array.length_toList (xs:=s.data)).symm
theorem strBin_sound {op:BinOp} {a b:ByteArray} {r:AV} (h:strBin op a.data.toList b.data.toList=some r) (t:TypeId) (w:World) :
  ∃ v,(binOp op t (.string a) (.string b)).run P w = .ok v w∧FV w S r v:=by
 cases op<;>simp only [strBin,reduceCtorEq,Option.some.injEq] at h
 case add=>
  split at h
  ·rename_i hl
   injection h with h
   subst h
   have:¬ ((a.size + b.size:Nat):Int) > IntKind.i64.max:=by
    have e:IntKind.i64.max=9223372036854775807:=rfl
    rw [e,size_data,size_data]
    have hL:LIM=1073741824:=rfl
    omega
   refine ⟨.string (a++b),?_, .str (by simp)⟩
   simp only [binOp,Op.stringOp]
   rw [if_neg this]
   rfl
  ·cases h
 all_goals subst h
 all_goals refine ⟨.bool _,by simp only [binOp,Op.stringOp,ByteArray.toList_eq,list_beq_decide];rfl, .bool _⟩
theorem equal_succ (t:TypeId) (x y:Value):Op.equal t x y=Op.equalIn (9999 + 1) t x y:=rfl
theorem eqFields_flat {T:Types} (hT:TOk P T) (d:Nat):∀ (fs:List Field) (k:Nat) (xs ys:List AV) (us vs:Array Value) (b:Bool),
  (∀ f ∈ fs,f.name≠"_")→fs.map (·.offset)=(List.range (k + fs.length)).drop k→us.size=k + xs.length→vs.size=k + ys.length→
  (∀ (j:Nat) (x:AV) (u:Value),xs[j]? = some x→us[k + j]? = some u→FV w S x u)→(∀ (j:Nat) (y:AV) (v:Value),ys[j]? = some y→vs[k + j]? = some v→FV w S y v)→
  eqCells T (fs.map fun f=>(f.offset,f.type)) xs ys=some b→(Op.eqFields (d + 1) us vs fs).run P w = .ok b w:=by
 intro fs
 induction fs with
 | nil=>
  intro k xs ys us vs b _ _ _ _ _ _ he
  cases xs<;>cases ys<;>simp only [List.map_nil,eqCells,Option.some.injEq,reduceCtorEq] at he
  subst he
  simp [Op.eqFields]
 | cons f fs ih=>
  intro k xs ys us vs b hf ho hu hv hxu hyv he
  cases xs with
  | nil=>simp [eqCells] at he
  | cons x xs=>
   cases ys with
   | nil=>simp [eqCells] at he
   | cons y ys=>
    have hn:=hf f (List.mem_cons_self)
    simp only [List.map_cons,eqCells] at he
    cases hti:T f.type with
    | none=>simp [hti] at he
    | some ti=>
     simp only [hti] at he
     obtain ⟨ii,dd,zz,hok⟩:=hT _ _ hti
     generalize hc:eqCell ti.k x y=c at he
     generalize hcs:eqCells T (fs.map fun f=>(f.offset,f.type)) xs ys=cs at he
     cases c with
     | none=>simp at he
     | some c=>
      cases cs with
      | none=>simp at he
      | some c'=>
       simp only [Option.some.injEq] at he
       have hk:f.offset=k:=by
        have:=congrArg (·[0]?) ho
        simpa using this
       have hlu:k < us.size:=by simp at hu;omega
       have hlv:k < vs.size:=by simp at hv;omega
       have hxu0:=hxu 0 x us[k] rfl (by simp [hlu])
       have hyv0:=hyv 0 y vs[k] rfl (by simp [hlv])
       have hag:(isAgg f.type).run P w = .ok false w:=by
        rw [hok.run_isAgg]
        cases hkk:ti.k<;>cases x<;>simp [hkk,eqCell] at hc<;>simp [TI.isAgg,hkk]
       have hpu:(part f.type us f.offset).run P w = .ok us[k] w:=by simp [part,hag,hk,hlu]
       have hpv:(part f.type vs f.offset).run P w = .ok vs[k] w:=by simp [part,hag,hk,hlv]
       have ho':fs.map (·.offset)=(List.range (k + 1 + fs.length)).drop (k + 1):=by
        have:=congrArg List.tail ho
        simp only [List.map_cons,List.tail_cons,List.tail_drop,List.length_cons] at this
        rw [this]
        congr 2
        omega
       have ih':=ih (k + 1) xs ys us vs c' (fun g hg=>hf g (List.mem_cons_of_mem _ hg)) ho'
        (by simp at hu;omega) (by simp at hv;omega)
        (fun j x u h1 h2=>hxu (j + 1) x u (by simpa using h1) (by rw [show k + (j + 1)=k + 1 + j by omega];exact h2))
        (fun j y v h1 h2=>hyv (j + 1) y v (by simpa using h1) (by rw [show k + (j + 1)=k + 1 + j by omega];exact h2)) hcs
       have hkok:=hok.kok
       have hund:=hok.und
       have hfst:(Op.equalIn (d + 1) f.type us[k] vs[k]).run P w = .ok c w:=by
        generalize us[k]=u at hxu0
        generalize vs[k]=v at hyv0
        cases hkk:ti.k<;>cases x<;>cases y<;>simp only [hkk,eqCell,reduceCtorEq] at hc
        case int.int.int kk k1 n1 k2 n2=>
         split at hc
         ·rename_i e
          subst e
          injection hc with hc
          cases hxu0
          cases hyv0
          cases dd<;>simp only [hkk,KOK] at hkok
          rw [run_equalIn_int w d f.type _ _ _ _ hund,int_beq_decide,hc]
         ·cases hc
        case bool.bool.bool=>
         injection hc with hc
         cases hxu0
         cases hyv0
         cases dd<;>simp only [hkk,KOK] at hkok
         rw [run_equalIn_bool' w d f.type _ _ hund,bool_beq_decide,hc]
        case str.str.str=>
         injection hc with hc
         cases hxu0
         cases hyv0
         rename_i h1 _ h2
         cases dd<;>simp only [hkk,KOK] at hkok
         rw [run_equalIn_string w d f.type _ _ hund,ByteArray.toList_eq,ByteArray.toList_eq,list_beq_decide,h1,h2,hc]
       simp only [Op.eqFields,ne_eq,hn,not_false_eq_true,if_true,Sem.run_bind,hpu,hpv,Result.andThen_ok,hfst]
       cases c with
       | false=>
        simp at he
        subst he
        simp
       | true=>
        simp at he
        subst he
        simp only [Bool.not_true,Bool.false_eq_true,if_false]
        exact ih'
theorem eqFs_ok {T:Types} (hT:TOk P T) {t:TypeId} {fs:List (Nat × TypeId)} (h:eqFs T t=some fs) :
  ∃ fields,P.underlying t=some (.struct fields)∧fields.toList.map (fun f=>(f.offset,f.type))=fs∧EqTy P t fields:=by
 unfold eqFs at h
 split at h
 ·rename_i fs' _ _ hti
  injection h with h
  subst h
  obtain ⟨ii,dd,zz,hok⟩:=hT _ _ hti
  have hk:=hok.kok
  have hu:=hok.und
  cases dd<;>simp only [KOK] at hk
  exact ⟨_,hu,hk.1,hk.2.2 (by simp)⟩
 ·cases h
theorem structEq_sound {T:Types} (hT:TOk P T) {t:TypeId} {fs:List (Nat × TypeId)} (h:eqFs T t=some fs) {xs ys:List AV} {us vs:Array Value} {b:Bool}
  (hu:us.size=xs.length) (hv:vs.size=ys.length)
  (hxu:∀ (j:Nat) (x:AV) (u:Value),xs[j]? = some x→us[j]? = some u→FV w S x u) (hyv:∀ (j:Nat) (y:AV) (v:Value),ys[j]? = some y→vs[j]? = some v→FV w S y v)
  (he:eqCells T fs xs ys=some b):(Op.equalIn 10000 t (.agg us) (.agg vs)).run P w = .ok b w∧P.eqGuardType P.depth t=false:=by
 obtain ⟨fields,h1,h2,h3⟩:=eqFs_ok hT h
 have hfo:P.fieldsOf t=fields:=by simp [Program.fieldsOf,h1]
 refine ⟨?_,h3.guard⟩
 show (Op.equalIn (9999 + 1) t (.agg us) (.agg vs)).run P w = .ok b w
 rw [run_equalIn_struct w 9999 t us vs (by rw [hfo];exact h1) h3.stood,hfo]
 exact eqFields_flat hT 9998 fields.toList 0 xs ys us vs b h3.flat (by simpa using h3.offs) (by simpa using hu) (by simpa using hv)
  (fun j x u a1 a2=>hxu j x u a1 (by simpa using a2)) (fun j x u a1 a2=>hyv j x u a1 (by simpa using a2)) (by rw [h2];exact he)
theorem nil_frz_inv {w:World} {S:Nat→Prop} {h:Heap} {ρ:Rho} {sz:Nat} {v:Value} (hv:VR w S h ρ (.frz sz (some true) []) v):v = .slice none 0 0:=by
 obtain ⟨h1,h2⟩:=hv.frz_inv
 have h3:=h2 true rfl
 cases h1 with
 | nil=>rfl
 | row=>simp [nilV] at h3
theorem VA.eq_fv {w:World} {S:Nat→Prop} {h:Heap} {ρ:Rho} {k:TK} {a b:AV} {v:Value} {r:Bool} (hv:VA w S h ρ a v) (he:eqCell k a b=some r∨eqCell k b a=some r):FV w S a v:=by
 cases hv with
 | fv hf=>exact hf
 | ref=>rcases he with he | he<;>cases k<;>cases b<;>simp [eqCell] at he
 | ptr=>rcases he with he | he<;>cases k<;>cases b<;>simp [eqCell] at he
theorem eqCells_get {T:Types}:∀ {fs:List (Nat × TypeId)} {xs ys:List AV} {b:Bool},eqCells T fs xs ys=some b→xs.length=ys.length∧∀ (j:Nat) (x y:AV),xs[j]? = some x→ys[j]? = some y→∃ k r,eqCell k x y=some r
 | [],[],[],_,_=>⟨rfl,fun j x y h=>by simp at h⟩
 |(o,t) :: fs,x :: xs,y :: ys,b,h=>by
  simp only [eqCells] at h
  cases hti:T t with
  | none=>simp [hti] at h
  | some ti=>
   simp only [hti] at h
   generalize hc:eqCell ti.k x y=c at h
   generalize hcs:eqCells T fs xs ys=cs at h
   cases c with
   | none=>simp at h
   | some c=>
    cases cs with
    | none=>simp at h
    | some c'=>
     obtain ⟨h1,h2⟩:=eqCells_get hcs
     refine ⟨by simp [h1],fun j x' y' a1 a2 => ?_⟩
     cases j with
     | zero=>simp at a1 a2;subst a1 a2;exact ⟨_,_,hc⟩
     | succ j=>exact h2 j x' y' (by simpa using a1) (by simpa using a2)
 | [],[],_ :: _,_,h=>by simp [eqCells] at h
 | [],_ :: _,_,_,h=>by simp [eqCells] at h
 | _ :: _,[],_,_,h=>by simp [eqCells] at h
 | _ :: _,_ :: _,[],_,h=>by simp [eqCells] at h
theorem isNilS_sound {h:Heap} {ρ:Rho} {x:AV} {u:Value} (hx:VR w S h ρ x u) {b:Bool} (hb:isNilS x=some b):∃ A n c,u = .slice A n c∧A.isNone=b:=by
 cases x<;>simp only [isNilS,reduceCtorEq] at hb
 case frz sz nl xs=>
  obtain ⟨f1,f2⟩:=hx.frz_inv
  cases nl with
  | some q=>
   simp only [Option.some.injEq] at hb
   subst hb
   have:=f2 q rfl
   cases f1 with
   | nil=>exact ⟨_,_,_,rfl,this⟩
   | row=>exact ⟨_,_,_,rfl,this⟩
  | none=>
   cases xs with
   | nil=>simp [isNilS] at hb
   | cons c xs=>
    simp only [isNilS,Option.some.injEq] at hb
    subst hb
    cases f1 with
    | row=>exact ⟨_,_,_,rfl,rfl⟩
 case ref r' p sz off n nl=>
  have f:=hx.ref_inv
  cases nl with
  | none=>
   cases n with
   | zero=>simp [isNilS] at hb
   | succ n=>
    simp only [isNilS,Option.some.injEq] at hb
    subst hb
    cases f with
    | fv hf=>cases hf
    | ref h1 h2 h3=>
     obtain ⟨A,c,rfl,hc,h0⟩:=h3
     refine ⟨A,_,c,rfl,?_⟩
     cases A with
     | none=>have:=h0 rfl;omega
     | some a=>rfl
  | some q=>
   simp only [isNilS,Option.some.injEq] at hb
   subst hb
   cases f with
   | fv hf=>cases hf
   | ref h1 h2 h3=>
    obtain ⟨A,c,rfl,_⟩:=h3
    have:=h2 q rfl
    refine ⟨A,n,c,rfl,?_⟩
    cases A<;>simpa [nilV] using this
theorem isNilP_sound {h:Heap} {ρ:Rho} {x:AV} {u:Value} (hx:VR w S h ρ x u) {b:Bool} (hb:isNilP x=some b):∃ A,u = .pointer A∧A.isNone=b:=by
 cases x<;>simp only [isNilP,reduceCtorEq,Option.some.injEq] at hb<;>subst hb
 case nilp=>exact ⟨_,hx.nilp_inv,rfl⟩
 case ptr=>
  have f:=hx.ptr_inv
  cases f with
  | fv hf=>cases hf
  | ptr h1 h2=>obtain ⟨A,rfl⟩:=h2;exact ⟨_,rfl,rfl⟩
 case fptr=>
  have f:=hx.fptr_inv
  cases f
  exact ⟨_,rfl,rfl⟩
theorem absBin_sound {T:Types} (hT:TOk P T) {h:Heap} {ρ:Rho} {op:BinOp} {t:TypeId} {x y r:AV} {u v:Value} (hx:VR w S h ρ x u) (hy:VR w S h ρ y v)
  (hr:absBin T t (eqFs T t) op x y=some r) (ox oy:Operand) :
  ∃ q,(do eqGuard op t ox oy u v;binOp op t u v).run P w = .ok q w∧FV w S r q:=by
 unfold absBin at hr
 split at hr
 ·-- int
  split at hr
  ·have e1:=hx.int_inv
   have e2:=hy.int_inv
   subst e1 e2
   simp only [Sem.run_bind,eqGuard_plain (op:=op) (t:=t) (x:=ox) (y:=oy) (show Value.int _ _ ≠ .nilIface by simp) (by simp),Result.andThen_ok]
   split at hr
   ·obtain ⟨h1,h2⟩:=shiftBin_sound (P:=P) (S:=S) (.inl rfl) hr t w;exact ⟨_,h1,h2⟩
   ·obtain ⟨h1,h2⟩:=shiftBin_sound (P:=P) (S:=S) (.inr rfl) hr t w;exact ⟨_,h1,h2⟩
   ·split at hr
    ·rename_i e
     subst e
     obtain ⟨h1,h2⟩:=intBin_sound (P:=P) (S:=S) hr t w
     exact ⟨_,h1,h2⟩
    ·cases hr
  ·cases hr
 ·-- str
  split at hr
  ·obtain ⟨s1,e1,g1⟩:=hx.str_inv
   obtain ⟨s2,e2,g2⟩:=hy.str_inv
   subst e1 e2
   simp only [Sem.run_bind,eqGuard_plain (op:=op) (t:=t) (x:=ox) (y:=oy) (show Value.string _ ≠ .nilIface by simp) (by simp),Result.andThen_ok]
   rw [←g1,←g2] at hr
   exact strBin_sound hr t w
  ·cases hr
 ·-- bool
  split at hr
  ·have e1:=hx.bool_inv
   have e2:=hy.bool_inv
   subst e1 e2
   simp only [Sem.run_bind,eqGuard_plain (op:=op) (t:=t) (x:=ox) (y:=oy) (show Value.bool _ ≠ .nilIface by simp) (by simp),Result.andThen_ok]
   split at hr
   ·rename_i hti
    obtain ⟨ii,dd,zz,hok⟩:=hT _ _ hti
    have hk:=hok.kok
    have hu:=hok.und
    cases dd<;>simp only [KOK] at hk
    split at hr
    ·injection hr with hr
     subst hr
     refine ⟨_,?_, .bool _⟩
     simp only [binOp,equal_succ,Sem.run_bind,run_equalIn_bool' w _ t _ _ hu,Result.andThen_ok,Sem.run_pure,bool_beq_decide]
    ·injection hr with hr
     subst hr
     refine ⟨_,?_, .bool _⟩
     simp only [binOp,equal_succ,Sem.run_bind,run_equalIn_bool' w _ t _ _ hu,Result.andThen_ok,Sem.run_pure,bool_beq_decide]
    ·cases hr
   ·cases hr
  ·cases hr
 ·-- agg
  rename_i xs
  split at hr
  ·rename_i ys
   obtain ⟨us,e1,g1,c1⟩:=hx.agg_inv
   obtain ⟨vs,e2,g2,c2⟩:=hy.agg_inv
   subst e1 e2
   split at hr
   ·rename_i fs hfs
    have key:∀ b,eqCells T fs xs ys=some b→(Op.equalIn 10000 t (.agg us) (.agg vs)).run P w = .ok b w∧P.eqGuardType P.depth t=false:=by
     intro b hb
     obtain ⟨hlen,hget⟩:=eqCells_get hb
     refine structEq_sound (S:=S) hT hfs g1 g2 (fun j x u a1 a2 => ?_) (fun j y v a1 a2 => ?_) hb
     ·obtain ⟨y',hy'⟩:∃ y',ys[j]? = some y':=⟨_,List.getElem?_eq_getElem (by rw [←hlen];exact lt_len a1)⟩
      obtain ⟨k,r,hk⟩:=hget j x _ a1 hy'
      exact (c1 j x u a1 a2).eq_fv (.inl hk)
     ·obtain ⟨x',hx'⟩:∃ x',xs[j]? = some x':=⟨_,List.getElem?_eq_getElem (by rw [hlen];exact lt_len a1)⟩
      obtain ⟨k,r,hk⟩:=hget j _ y hx' a1
      exact (c2 j y v a1 a2).eq_fv (.inr hk)
    split at hr
    ·simp only [Option.map_eq_some_iff] at hr
     obtain ⟨b,hb,rfl⟩:=hr
     obtain ⟨k1,k2⟩:=key b hb
     refine ⟨_,?_, .bool _⟩
     simp only [Sem.run_bind,run_eqGuard_agg w _ t ox oy us vs k2,Result.andThen_ok,run_eql_struct w,k1]
    ·simp only [Option.map_eq_some_iff] at hr
     obtain ⟨b,hb,rfl⟩:=hr
     obtain ⟨k1,k2⟩:=key b hb
     refine ⟨_,?_, .bool _⟩
     simp only [Sem.run_bind,run_eqGuard_agg w _ t ox oy us vs k2,Result.andThen_ok,run_neq_struct w,k1]
    ·cases hr
   ·cases hr
  ·cases hr
 ·-- nil
  split at hr
  ·rename_i e _ _ hti
   obtain ⟨ii,dd,zz,hok⟩:=hT _ _ hti
   have hk:=hok.kok
   have hu:=hok.und
   cases dd<;>simp only [KOK] at hk
   split at hr
   ·have e2:=nil_frz_inv hy
    subst e2
    have key:=fun b=>isNilS_sound hx (b:=b)
    have hnn:∀ A n c,(eqGuard op t ox oy (.slice A n c) (.slice none 0 0)).run P w = .ok () w:=fun A n c=>eqGuard_plain (by simp) (by simp) w
    have heq:∀ (A:Option Addr) n c,(Op.equalIn (9999 + 1) t (.slice A n c) (.slice none 0 0)).run P w = .ok A.isNone w:=by
     intro A n c
     rw [Op.equalIn]
     simp only [Sem.run_bind,Go.run_underlying hu,Result.andThen_ok]
     cases A<;>rfl
    unfold nilOp at hr
    split at hr
    ·simp only [Option.map_eq_some_iff] at hr
     obtain ⟨b,hb,rfl⟩:=hr
     obtain ⟨A,n,c,rfl,hA⟩:=key b hb
     refine ⟨.bool b,?_, .bool _⟩
     simp only [Sem.run_bind,hnn,Result.andThen_ok,binOp,equal_succ,heq,hA,Sem.run_pure]
    ·simp only [Option.map_eq_some_iff] at hr
     obtain ⟨b,hb,rfl⟩:=hr
     obtain ⟨A,n,c,rfl,hA⟩:=key b hb
     refine ⟨.bool (!b),?_, .bool _⟩
     simp only [Sem.run_bind,hnn,Result.andThen_ok,binOp,equal_succ,heq,hA,Sem.run_pure]
    ·cases hr
   ·cases hr
  ·rename_i e _ _ hti
   obtain ⟨ii,dd,zz,hok⟩:=hT _ _ hti
   have hk:=hok.kok
   have hu:=hok.und
   cases dd<;>simp only [KOK] at hk
   split at hr
   ·have e2:=hy.nilp_inv
    subst e2
    have key:=fun b=>isNilP_sound hx (b:=b)
    have hnn:∀ A,(eqGuard op t ox oy (.pointer A) (.pointer none)).run P w = .ok () w:=fun A=>eqGuard_plain (by simp) (by simp) w
    have heq:∀ (A:Option Addr),(Op.equalIn (9999 + 1) t (.pointer A) (.pointer none)).run P w = .ok A.isNone w:=by
     intro A
     rw [Op.equalIn]
     simp only [Sem.run_bind,Go.run_underlying hu,Result.andThen_ok]
     cases A<;>rfl
    unfold nilOp at hr
    split at hr
    ·simp only [Option.map_eq_some_iff] at hr
     obtain ⟨b,hb,rfl⟩:=hr
     obtain ⟨A,rfl,hA⟩:=key b hb
     refine ⟨.bool b,?_, .bool _⟩
     simp only [Sem.run_bind,hnn,Result.andThen_ok,binOp,equal_succ,heq,hA,Sem.run_pure]
    ·simp only [Option.map_eq_some_iff] at hr
     obtain ⟨b,hb,rfl⟩:=hr
     obtain ⟨A,rfl,hA⟩:=key b hb
     refine ⟨.bool (!b),?_, .bool _⟩
     simp only [Sem.run_bind,hnn,Result.andThen_ok,binOp,equal_succ,heq,hA,Sem.run_pure]
    ·cases hr
   ·cases hr
  ·cases hr
end

theorem add_lit (g o k:Nat):(⟨g,o,none⟩:Addr).add k=⟨g,o + k,none⟩:=Addr.add_mid g o k
theorem add_of {A:Addr} (h:A.spot=none) (k:Nat):A.add k=⟨A.block,A.off + k,none⟩:=by
 obtain ⟨b,o,s⟩:=A
 simp only at h
 subst h
 exact add_lit b o k
section
variable {P:Program} {w:World} {S:Nat→Prop} {h:Heap} {ρ:Rho} {T:Types}
theorem VR.cells {a:AV} {v:Value} (hv:VR w S h ρ a v) (hs:(cellsOf a).all storable=true) :
  v.cells.size=(cellsOf a).length∧∀ (k:Nat) (x:AV) (u:Value),(cellsOf a)[k]? = some x→v.cells[k]? = some u→VB w S h ρ x u∧u.oneCell'=true:=by
 by_cases hagg:∃ cs,a = .agg cs
 ·obtain ⟨cs,rfl⟩:=hagg
  obtain ⟨vs,rfl,h1,h2⟩:=hv.agg_inv
  refine ⟨h1,fun k x u h3 h4 => ?_⟩
  have h5:=h2 k x u h3 h4
  have h6:storable x=true:=by
   rw [List.all_eq_true] at hs
   exact hs x (List.mem_of_getElem? h3)
  exact ⟨.up h5,h5.one h6⟩
 ·have hc:cellsOf a = [a]:=by
   cases a<;>first | rfl | exact absurd ⟨_,rfl⟩ hagg
  rw [hc] at hs ⊢
  simp only [List.all_cons,List.all_nil,Bool.and_true] at hs
  have h1:=hv.one hs
  have h2:VB w S h ρ a v:=hv.to_vb (fun cs e=>by subst e;simp [storable] at hs)
  rw [one_cells h1]
  refine ⟨rfl,fun k x u h3 h4 => ?_⟩
  cases k with
  | zero=>simp at h3 h4;subst h3 h4;exact ⟨h2,h1⟩
  | succ k=>simp at h3
theorem VB.to_va {a:AV} {v:Value} (hv:VB w S h ρ a v) (hp:plain a=true):VA w S h ρ a v:=by
 cases hv with
 | up hv=>exact hv
 | agg=>cases hp
 | fn=>cases hp
theorem wrap1_inv {cs:List AV} {r:AV} (hr:wrap1 true cs=some r):r = .agg cs∧∀ c ∈ cs,plain c=true:=by
 simp only [wrap1,if_true] at hr
 split at hr
 ·rename_i hp
  injection hr with hr
  exact ⟨hr.symm,List.all_eq_true.1 hp⟩
 ·cases hr
theorem wrap1_agg {cs:List AV} {r:AV} (hr:wrap1 true cs=some r) {vs:Array Value} (hn:vs.size=cs.length)
  (hc:∀ (k:Nat) (a:AV) (v:Value),cs[k]? = some a→vs[k]? = some v→VB w S h ρ a v):VR w S h ρ r (.agg vs):=by
 obtain ⟨rfl,hp⟩:=wrap1_inv hr
 exact .up (.agg hn fun k a v h1 h2=>(hc k a v h1 h2).to_va (hp a (List.mem_of_getElem? h1)))
theorem wrap1_one {cs:List AV} {r:AV} (hr:wrap1 false cs=some r):cs = [r]:=by
 simp only [wrap1,Bool.false_eq_true,if_false] at hr
 split at hr
 ·injection hr with hr;rw [hr]
 ·cases hr
theorem FV.norid {a:AV} {v:Value} (hf:FV w S a v):rid1 a = []∧rid2 a = []∧rids a = []:=by
 induction hf with
 | int | bool | str | unk | undef | nilp | frz | fptr=>exact ⟨rfl,rfl,rfl⟩
 | fn hn hc ih=>
  have:∀ c ∈ _,rid1 c = []:=fun c hm=>by
   obtain ⟨k,hk⟩:=List.mem_iff_getElem?.1 hm
   exact (ih k c _ hk (Array.getElem?_eq_getElem (by rw [hn];exact lt_len hk))).1
  have h2:=List.flatMap_eq_nil_iff.2 this
  exact ⟨rfl,h2,h2⟩
 | agg hn hc ih=>
  have:∀ c ∈ _,rid1 c = []:=fun c hm=>by
   obtain ⟨k,hk⟩:=List.mem_iff_getElem?.1 hm
   exact (ih k c _ hk (Array.getElem?_eq_getElem (by rw [hn];exact lt_len hk))).1
  have h2:=List.flatMap_eq_nil_iff.2 this
  exact ⟨rfl,h2,h2⟩
theorem VA.rids_eq {a:AV} {v:Value} (hv:VA w S h ρ a v):rids a=rid1 a∧rid2 a=rid1 a:=by
 cases hv with
 | fv hf=>obtain ⟨h1,h2,h3⟩:=hf.norid;rw [h1,h2,h3];exact ⟨rfl,rfl⟩
 | ref=>exact ⟨rfl,rfl⟩
 | ptr=>exact ⟨rfl,rfl⟩
theorem VB.rids_eq {a:AV} {v:Value} (hv:VB w S h ρ a v):rids a=rid2 a:=by
 cases hv with
 | up hv=>rw [hv.rids_eq.1,hv.rids_eq.2]
 | agg=>rfl
 | fn=>rfl
theorem wrap1_rids {b:Bool} {cs:List AV} {r:AV} (hr:wrap1 b cs=some r) (hs:∀ c ∈ cs,rids c=rid1 c):∀ q ∈ rids r,∃ c ∈ cs,q ∈ rid1 c:=by
 intro q hq
 cases b with
 | true=>
  obtain ⟨rfl,hp⟩:=wrap1_inv hr
  simp only [rids,rid2,List.mem_flatMap] at hq
  exact hq
 | false=>
  have:=wrap1_one hr
  subst this
  exact ⟨r,by simp,hs r (by simp) ▸ hq⟩
theorem frzOf_sound {a:AV} {v:Value} (hf:FC w S a v):FV w S (frzOf a) v:=by
 cases hf with
 | int=>exact .int _ _
 | bool=>exact .bool _
 | str hs=>exact .str hs
 | unk h=>exact .unk h
 | nil=>exact .frz (.nil _) (by simp)
 | row vs h1 h2 h3 h4=>exact .frz (.row vs h1 h2 h3 h4) (by simp)
theorem FC.slice_inv {sz:Nat} {xs:List (List AV)} {v:Value} (hf:FC w S (.row sz xs) v):∃ A c,v = .slice A xs.length c∧xs.length≤c:=by
 cases hf with
 | nil=>exact ⟨none,0,rfl,by simp⟩
 | row vs h1=>exact ⟨_,_,rfl,h1⟩
theorem FC.cut {sz:Nat} {xs:List (List AV)} {A:Option Addr} {n c:Nat} (hf:FC w S (.row sz xs) (.slice A n c)) {size l k c':Nat} (hsz:sz=size∨xs = []) (hlk:l + k≤xs.length)
  (hk:k≤c') (hc:c'=c - l) :
  FC w S (.row sz ((xs.drop l).take k)) (.slice (if c=l then A else A.map (·.add (l * size))) k c'):=by
 have hlen:((xs.drop l).take k).length=k:=by simp;omega
 cases hf with
 | nil=>
  simp at hlk
  obtain ⟨rfl,rfl⟩:=hlk
  simp at hc
  subst hc
  simp
  exact .nil _
 | @row _ _ A _ vs h1 h2 h3 h4=>
  by_cases hcl:c=l
  ·subst hcl
   have:k=0:=by omega
   subst this
   have hc0:c'=0:=by omega
   subst hc0
   simp only [if_true,List.take_zero]
   have:=FC.row (w:=w) (S:=S) (sz:=sz) (xs := []) (A:=A) (cap:=0) vs (by simp) (by simp) (by simp) (by simp)
   simpa using this
  ·rw [if_neg hcl]
   have hget:∀ (i:Nat) (c0:List AV),((xs.drop l).take k)[i]? = some c0→xs[l + i]? = some c0:=by
    intro i c0 hi
    rw [List.getElem?_take] at hi
    split at hi
    ·simpa using hi
    ·cases hi
   have:=FC.row (w:=w) (S:=S) (sz:=sz) (xs:=(xs.drop l).take k) (A:=A.add (l * size)) (cap:=c') (fun i j=>vs (l + i) j) (by omega)
    (fun i c0 hi=>h2 _ _ (hget i c0 hi))
    (fun i j c0 a hi hj=>by
     obtain ⟨g1,g2,g3⟩:=h3 _ j c0 a (hget i c0 hi) hj
     have hne:xs ≠ []:=by
      intro e
      have:=hget i c0 hi
      rw [e] at this
      simp at this
     have hsz':sz=size:=hsz.resolve_right hne
     subst hsz'
     rw [add_of g1]
     refine ⟨rfl,g2,?_⟩
     rw [←g3]
     congr 2
     simp only [Nat.add_mul]
     omega)
    (fun i j c0 a hi hj=>h4 _ j c0 a (hget i c0 hi) hj)
   rw [hlen] at this
   exact this
theorem nilV_if (c:Prop) [Decidable c] (A:Option Addr) (f:Addr→Addr) (n m n' m':Nat):nilV (.slice (if c then A else A.map f) n m)=nilV (.slice A n' m'):=by
 cases A<;>split<;>rfl
theorem bounds_sound {len:Nat} {cap:Nat} (hcap:len≤cap) {lo hi:Option AV} {ulo uhi:Option Value} (hlo:∀ x,lo=some x→∃ u,ulo=some u∧VR w S h ρ x u) (hlo':lo=none→ulo=none)
  (hhi:∀ x,hi=some x→∃ u,uhi=some u∧VR w S h ρ x u) (hhi':hi=none→uhi=none) {l k:Int} (hb:sliceBounds (len:Int) lo hi=some (l,k)) (b:Bool) :
  (Instr.sliceBounds b len cap ulo uhi none).run P w = .ok (l.toNat,k.toNat,cap) w∧0≤l∧l≤k∧k≤len:=by
 unfold sliceBounds at hb
 cases hi with
 | none=>
  rw [hhi' rfl]
  cases lo with
  | none=>
   rw [hlo' rfl]
   simp only [Option.some.injEq,Prod.mk.injEq] at hb
   obtain ⟨rfl,rfl⟩:=hb
   simp [Instr.sliceBounds]
  | some x=>
   obtain ⟨u,rfl,hu⟩:=hlo x rfl
   cases x<;>simp only [reduceCtorEq] at hb
   case int k0 n0=>
    have:=hu.int_inv
    subst this
    split at hb
    ·rename_i hl
     simp only [Option.some.injEq,Prod.mk.injEq] at hb
     obtain ⟨rfl,rfl⟩:=hb
     refine ⟨?_,hl.1,hl.2,by omega⟩
     simp [Instr.sliceBounds,run_sliceBound,hl.1,hl.2]
    ·cases hb
 | some y=>
  obtain ⟨u,rfl,hu⟩:=hhi y rfl
  cases y<;>simp only [reduceCtorEq] at hb
  case int k1 n1=>
   have:=hu.int_inv
   subst this
   split at hb
   ·rename_i hh
    have hcc:n1≤(cap:Int):=by omega
    cases lo with
    | none=>
     rw [hlo' rfl]
     simp only [Option.some.injEq,Prod.mk.injEq] at hb
     obtain ⟨rfl,rfl⟩:=hb
     refine ⟨?_,by omega,by omega,by omega⟩
     simp [Instr.sliceBounds,run_sliceBound,hh.1,hcc]
    | some x=>
     obtain ⟨u,rfl,hu⟩:=hlo x rfl
     cases x<;>simp only [reduceCtorEq] at hb
     case int k0 n0=>
      have:=hu.int_inv
      subst this
      split at hb
      ·rename_i hl
       simp only [Option.some.injEq,Prod.mk.injEq] at hb
       obtain ⟨rfl,rfl⟩:=hb
       refine ⟨?_,hl.1,hl.2,by omega⟩
       have e1:((n1.toNat:Nat):Int)=n1:=Int.toNat_of_nonneg hh.1
       have hlk:n0≤((n1.toNat:Nat):Int):=by omega
       simp [Instr.sliceBounds,run_sliceBound,hh.1,hcc]
       rw [run_sliceBound (h0:=hl.1) (h1:=hlk)]
       rfl
      ·cases hb
   ·cases hb
theorem str_cut {s:ByteArray} {l:List UInt8} (hs:s.data.toList=l) (a b:Nat) (hb:b≤l.length):(s.extract a b).data.toList=(l.drop a).take (b - a):=by
 subst hs
 rw [ByteArray.data_extract,Array.toList_extract]
theorem sliceAV_sound (hT:TOk P T) {t:TypeId} {x r:AV} {u:Value} (hx:VR w S h ρ x u) {lo hi:Option AV} {ulo uhi:Option Value} (hlo:∀ x,lo=some x→∃ u,ulo=some u∧VR w S h ρ x u) (hlo':lo=none→ulo=none)
  (hhi:∀ x,hi=some x→∃ u,uhi=some u∧VR w S h ρ x u) (hhi':hi=none→uhi=none) (hr:sliceAV T t x lo hi=some r) :
  (∃ v,(Instr.sliceAt t u ulo uhi none).run P w = .ok v w∧VR w S h ρ r v)∧∀ q ∈ rids r,q ∈ rids x:=by
 unfold sliceAV at hr
 split at hr
 ·-- string
  obtain ⟨s,rfl,hs⟩:=hx.str_inv
  split at hr
  ·rename_i hti
   obtain ⟨ii,dd,zz,hok⟩:=hT _ _ hti
   have hk:=hok.kok
   have hu:=hok.und
   cases dd<;>simp only [KOK] at hk
   split at hr
   ·rename_i l k hb
    injection hr with hr
    subst hr
    rw [←hs] at hb
    have hb':sliceBounds ((s.size:Nat):Int) lo hi=some (l,k):=by rw [size_data];exact hb
    obtain ⟨b1,b2,b3,b4⟩:=bounds_sound (P:=P) (Nat.le_refl s.size) hlo hlo' hhi hhi' hb' false
    refine ⟨⟨.string (s.extract l.toNat k.toNat),?_, .up (.up (.fv (.str ?_)))⟩,by simp [rids,rid2,rid1]⟩
    ·simp [Instr.sliceAt,Instr.slice,Go.run_underlying hu,b1]
    ·rw [str_cut hs _ _ (by rw [←hs,←size_data];omega)]
     congr 1
     omega
   ·cases hr
  ·cases hr
 ·-- frozen
  rename_i sz nl xs
  obtain ⟨f1,f2⟩:=hx.frz_inv
  obtain ⟨A,c,rfl,hcap⟩:=f1.slice_inv
  split at hr
  ·rename_i e _ _ hti
   obtain ⟨ii,dd,zz,hok⟩:=hT _ _ hti
   have hk:=hok.kok
   have hu:=hok.und
   cases dd<;>simp only [KOK] at hk
   subst hk
   split at hr
   ·rename_i te hte
    obtain ⟨ie,de,ze,hoke⟩:=hT _ _ hte
    split at hr
    ·rename_i hsz
     split at hr
     ·rename_i l k hb
      injection hr with hr
      subst hr
      obtain ⟨b1,b2,b3,b4⟩:=bounds_sound (P:=P) hcap hlo hlo' hhi hhi' hb true
      have hrun:(Instr.sliceAt t (.slice A xs.length c) ulo uhi none).run P w = .ok (.slice (if c=l.toNat then A else A.map (·.add (l.toNat * te.size))) (k.toNat - l.toNat) (c - l.toNat)) w:=by
       simp [Instr.sliceAt,Instr.slice,Go.run_underlying hu,b1,hoke.run_sizeOf]
      refine ⟨⟨_,hrun, .up (.up (.fv (.frz ?_ ?_)))⟩,by simp [rids,rid2,rid1]⟩
      ·have ek:(k - l).toNat=k.toNat - l.toNat:=by omega
       rw [ek]
       refine f1.cut ?_ (by omega) (by omega) rfl
       rcases hsz with h1 | h1
       ·exact .inl h1
       ·right
        cases xs<;>simp_all [isNilL]
      ·intro b hb
       have:=f2 b hb
       exact (nilV_if _ _ _ _ _ _ _).trans this
     ·cases hr
    ·cases hr
   ·cases hr
  ·cases hr
 ·-- own
  rename_i q p sz off n nl
  have hv:=hx.ref_inv
  cases hv with
  | fv hf=>cases hf
  | ref h1 h2 h3=>
   obtain ⟨A,c,rfl,hcap,hnil⟩:=h3
   split at hr
   ·rename_i e _ _ hti
    obtain ⟨ii,dd,zz,hok⟩:=hT _ _ hti
    have hk:=hok.kok
    have hu:=hok.und
    cases dd<;>simp only [KOK] at hk
    subst hk
    split at hr
    ·rename_i te hte
     obtain ⟨ie,de,ze,hoke⟩:=hT _ _ hte
     split at hr
     ·rename_i hsz
      subst hsz
      split at hr
      ·rename_i l k hb
       injection hr with hr
       subst hr
       obtain ⟨b1,b2,b3,b4⟩:=bounds_sound (P:=P) hcap hlo hlo' hhi hhi' hb true
       have hrun:(Instr.sliceAt t (.slice A n c) ulo uhi none).run P w = .ok (.slice (if c=l.toNat then A else A.map (·.add (l.toNat * te.size))) (k.toNat - l.toNat) (c - l.toNat)) w:=by
        simp [Instr.sliceAt,Instr.slice,Go.run_underlying hu,b1,hoke.run_sizeOf]
       have ek:(k - l).toNat=k.toNat - l.toNat:=by omega
       refine ⟨⟨_,hrun, .up (.up (.ref ?_ ?_ ?_))⟩,by simp [rids,rid2,rid1]⟩
       ·intro sz' ys hg
        obtain ⟨g1,g2,bc,g3,g4⟩:=h1 sz' ys hg
        refine ⟨g1,by omega,bc,g3,?_⟩
        obtain ⟨A',cap',e1,e2,e3⟩:=g4
        injection e1 with e1 _ e1'
        subst e1 e1'
        refine ⟨_,_,by rw [ek],fun h0 => ?_,fun h0 => ?_⟩
        ·have ho:off=0:=by omega
         have hl0:l.toNat=0:=by omega
         obtain ⟨e4,e5⟩:=e2 ho
         rw [hl0]
         refine ⟨?_,by omega⟩
         rw [←e4]
         cases A with
         | none=>simp
         | some B=>simp [Addr.add]
        ·obtain ⟨g,e4,e5⟩:=e3 (by omega)
         refine ⟨g,e4,?_⟩
         rw [if_neg (by omega),e5]
         simp only [Option.map_some,add_lit,Nat.add_mul]
       ·intro b hb
        have:=h2 b hb
        exact (nilV_if _ _ _ _ _ _ _).trans this
       ·refine ⟨_,_,by rw [ek],by omega,fun h => ?_⟩
        cases A with
        | none=>rw [hnil rfl];simp
        | some B=>split at h<;>simp at h
      ·cases hr
     ·cases hr
    ·cases hr
   ·cases hr
 ·cases hr
theorem OC.row_inv {F:Nat→Prop} {sz:Nat} {xs:List (List AV)} {v:Value} (ho:OC w F (.row sz xs) v) :
  (xs = []∧v = .slice none 0 0)∨∃ (g cap:Nat) (cs:Array Value) (ty:TypeId) (fr:Nat × Nat) (Fs:Nat→Nat→Nat→Prop),
   v = .slice (some ⟨g,0,none⟩) xs.length cap∧w.heap[g]? = some (.cells cs ty fr)∧Thaw cs fr∧cap * sz≤cs.size∧xs.length≤cap∧F g∧
   (∀ i j b,Fs i j b→F b∧b≠g)∧(∀ i j i' j' b,Fs i j b→Fs i' j' b→i=i'∧j=j')∧
   (∀ (i:Nat) (c:List AV),xs[i]? = some c→c.length=sz)∧
   (∀ (i j:Nat) (c:List AV) (a:AV),xs[i]? = some c→c[j]? = some a→∃ u,cs[i * sz + j]? = some u∧OC w (Fs i j) a u):=by
 cases ho with
 | nil=>exact .inl ⟨rfl,rfl⟩
 | @row _ _ _ g cap cs ty fr Fs hh ht hcap hlen hg hsub hdis hsz hc=>
  refine .inr ⟨g,cap,cs,ty,fr,Fs,rfl,hh,ht,hcap,hlen,hg,hsub,hdis,hsz,fun i j c a h1 h2 => ?_⟩
  have hlt:i * sz + j < cs.size:=idx_lt (lt_len h1) (by have:=lt_len h2;have:=hsz i c h1;omega) hlen hcap
  exact ⟨cs[i * sz + j],by simp [hlt],hc i j c a _ h1 h2 (by simp [hlt])⟩
theorem placed {X:Fix} {Fr:Rid→Nat→Prop} (m:Mem X h ρ Fr w) {r:Rid} {p:Path} {sz:Nat} {xs:List (List AV)} (hg:getRow h r p=some (sz,xs)) {bc:Option Nat × Nat}
  (hr:refAt w h ρ r p bc):∃ F:Nat→Prop,(∀ b,F b→Fr r b)∧((xs = []∧bc=(none,0))∨∃ g,bc.1=some g∧OC w F (.row sz xs) (.slice (some ⟨g,0,none⟩) xs.length bc.2)):=by
 unfold getRow at hg
 unfold refAt at hr
 cases hl:look r h with
 | none=>simp [hl] at hg
 | some x=>
  cases x with
  | box cs=>simp [hl] at hg
  | row szr xsr dt=>
   simp only [hl] at hg hr
   have hx:=m.root r _ hl
   simp only [RootOK,RowOK] at hx
   cases p with
   | none=>
    simp only [subRow,Option.some.injEq,Prod.mk.injEq] at hg
    obtain ⟨rfl,rfl⟩:=hg
    simp only [placeAt] at hr
    subst hr
    refine ⟨Fr r,fun b hb=>hb,?_⟩
    rcases hx with ⟨g,h1,h2,h3⟩ | ⟨h1,h2⟩
    ·exact .inr ⟨g,h1,h2⟩
    ·exact .inl ⟨h2,h1⟩
   | some q=>
    obtain ⟨i,j⟩:=q
    simp only [subRow] at hg
    split at hg
    ·cases hg
    ·split at hg
     ·rename_i c hc
      split at hg
      ·rename_i sz' ys hcj
       simp only [Option.some.injEq,Prod.mk.injEq] at hg
       obtain ⟨rfl,rfl⟩:=hg
       obtain ⟨g,n,h1,h2⟩:=hr
       rcases hx with ⟨g',h3,h4,h5⟩ | ⟨h3,h4⟩
       ·rcases h4.row_inv with ⟨h6,h7⟩ | ⟨g2,cap,cs,ty,fr,Fs,e1,e2,e3,e4,e5,e6,e7,e8,e9,e10⟩
        ·cases h7
        ·injection e1 with e1 _ _
         injection e1 with e1
         injection e1 with e1 _ _
         subst e1
         rw [h1] at h3
         injection h3 with h3
         subst h3
         obtain ⟨u,k1,k2⟩:=e10 i j c _ hc hcj
         have hu:u = .slice (addrOf bc.1) n bc.2:=by
          rw [cell_of_heap e2,k1] at h2
          injection h2
         subst hu
         refine ⟨Fs i j,fun b hb=>(e7 i j b hb).1,?_⟩
         have k3:=k2.row_inv
         rcases k3 with ⟨h6,h7⟩ | ⟨g3,cap3,cs3,ty3,fr3,Fs3,f1,-⟩
         ·left
          refine ⟨h6,?_⟩
          injection h7 with h7 _ h8
          obtain ⟨b1,b2⟩:=bc
          cases b1
          ·simp at h8;rw [h8]
          ·simp [addrOf] at h7
         ·right
          injection f1 with f1 f2 f3
          obtain ⟨b1,b2⟩:=bc
          cases b1 with
          | none=>simp [addrOf] at f1
          | some g4=>
           refine ⟨g4,rfl,?_⟩
           simp only [addrOf,Option.map_some] at k2
           rw [f2] at k2
           exact k2
       ·subst h4
        simp at hc
      ·cases hg
     ·cases hg
theorem chunked {X:Fix} {Fr:Rid→Nat→Prop} (m:Mem X h ρ Fr w) {r:Rid} {p:Path} {i:Nat} {c:List AV} (hg:getChunk h r p i=some c) {g o:Nat} (hp:ptrAt w h ρ r p i g o) :
  (∃ cs,look r h=some (.box cs)∧p=none∧i=0∧c=cs∧∀ k a,c[k]? = some a→∃ v,w.cell? ⟨g,o + k,none⟩=some v∧VB w X.S h ρ a v)∨
  (∃ szr xsr dt sz ys bc,look r h=some (.row szr xsr dt)∧subRow szr xsr dt p=some (sz,ys)∧ys[i]? = some c∧placeAt w (ρ r) szr p bc∧bc.1=some g∧o=i * sz∧
   ∃ F:Nat→Prop,(∀ b,F b→Fr r b)∧OC w F (.row sz ys) (.slice (some ⟨g,0,none⟩) ys.length bc.2)):=by
 unfold getChunk at hg
 unfold ptrAt at hp
 cases hl:look r h with
 | none=>simp [hl] at hg
 | some x=>
  cases x with
  | box cs=>
   simp only [hl] at hg hp
   obtain ⟨rfl,rfl,h3⟩:=hp
   simp only [Option.some.injEq] at hg
   subst hg
   refine .inl ⟨cs,rfl,rfl,rfl,rfl,fun k a hk => ?_⟩
   obtain ⟨g',vs,ty,fr,h4,h5,h6,h7,h8,h8',h9,h10⟩:=m.root r _ hl
   rw [h3] at h4 h7 h10
   injection h4 with h4
   subst h4
   obtain ⟨v,h11,h12⟩:=h10 k a hk
   exact ⟨v,(cell_of_heap h5 _).trans h11,h12⟩
  | row szr xsr dt=>
   simp only [hl] at hg hp
   obtain ⟨sz',ys,bc,h1,h2,h3,h4⟩:=hp
   rw [h1] at hg
   simp only at hg
   refine .inr ⟨szr,xsr,dt,sz',ys,bc,rfl,h1,hg,h2,h3,h4,?_⟩
   obtain ⟨F,f1,f2⟩:=placed m (r:=r) (p:=p) (sz:=sz') (xs:=ys) (by simp [getRow,hl,h1]) (bc:=bc) (by simp [refAt,hl,h2])
   refine ⟨F,f1,?_⟩
   rcases f2 with ⟨f3,f4⟩ | ⟨g',f3,f4⟩
   ·subst f3;simp at hg
   ·rw [h3] at f3
    injection f3 with f3
    subst f3
    exact f4
theorem indexAddrAV_sound {X:Fix} {Fr:Rid→Nat→Prop} (hT:TOk P T) (m:Mem X h ρ Fr w) {t:TypeId} {x ix:AV} {u v:Value} {e:Eff} (hx:VR w X.S h ρ x u) (hi:VR w X.S h ρ ix v) (hr:indexAddrAV T h t x ix=some e) :
  e.wr = []∧e.ok=True∧(∃ q,(Instr.indexAt t u v).run P w = .ok q w∧VR w X.S h ρ e.out q)∧∀ q ∈ rids e.out,q ∈ rids x:=by
 unfold indexAddrAV at hr
 split at hr
 ·-- frozen
  rename_i e' _ _ sz nl xs k n hti
  obtain ⟨ii,dd,zz,hok⟩:=hT _ _ hti
  have hk:=hok.kok
  have hu:=hok.und
  cases dd<;>simp only [KOK] at hk
  subst hk
  have:=hi.int_inv
  subst this
  obtain ⟨f1,-⟩:=hx.frz_inv
  split at hr
  ·rename_i te hte
   obtain ⟨ie,de,ze,hoke⟩:=hT _ _ hte
   split at hr
   ·rename_i hc
    obtain ⟨⟨c1,c2⟩,c3,c4⟩:=hc
    subst c3
    split at hr
    ·rename_i c hxc
     injection hr with hr
     subst hr
     have hlt:n.toNat < xs.length:=by omega
     cases f1 with
     | nil=>simp at hlt
     | @row _ _ A _ vs h1 h2 h3 h4=>
      refine ⟨rfl,rfl,⟨.pointer (some (A.add (n.toNat * te.size))),?_, .up (.up (.fv ?_))⟩,by simp [rids,rid2,rid1]⟩
      ·simp [Instr.indexAt,asIntOf,Go.run_underlying hu,hoke.run_sizeOf,c1,c2]
      ·have hlen:=h2 _ _ hxc
       obtain ⟨a0,ha0⟩:∃ a0,c[0]? = some a0:=⟨_,List.getElem?_eq_getElem (by omega)⟩
       have hsp:=(h3 _ 0 c a0 hxc ha0).1
       rw [add_of hsp]
       refine .fptr (fun j=>vs n.toNat j) rfl (fun j a hj => ?_) (fun j a hj => ?_)
       ·simp only [List.getElem?_map,Option.map_eq_some_iff] at hj
        obtain ⟨b,hb,rfl⟩:=hj
        obtain ⟨g1,g2,g3⟩:=h3 _ j c b hxc hb
        refine ⟨g2,?_⟩
        rw [←g3]
        simp [Nat.add_assoc]
       ·simp only [List.getElem?_map,Option.map_eq_some_iff] at hj
        obtain ⟨b,hb,rfl⟩:=hj
        exact frzOf_sound (h4 _ j c b hxc hb)
    ·cases hr
   ·cases hr
  ·cases hr
 ·-- own
  rename_i e' _ _ r p sz off n nl k i hti
  obtain ⟨ii,dd,zz,hok⟩:=hT _ _ hti
  have hk:=hok.kok
  have hu:=hok.und
  cases dd<;>simp only [KOK] at hk
  subst hk
  have:=hi.int_inv
  subst this
  have hv:=hx.ref_inv
  split at hr
  ·rename_i te sz' ys hte hgr
   obtain ⟨ie,de,ze,hoke⟩:=hT _ _ hte
   split at hr
   ·rename_i hc
    obtain ⟨⟨c1,c2⟩,c3,c4⟩:=hc
    subst c3 c4
    injection hr with hr
    subst hr
    cases hv with
    | fv hf=>cases hf
    | ref h1 h2 h3=>
     obtain ⟨A,c,rfl,hcap,-⟩:=h3
     obtain ⟨g1,g2,bc,g3,A',cap',e1,e2,e3⟩:=h1 _ _ hgr
     injection e1 with e1 _ e1'
     subst e1 e1'
     obtain ⟨g,e4,e5⟩:=e3 (by omega)
     subst e5
     refine ⟨rfl,rfl,⟨.pointer (some ⟨g,(off + i.toNat) * te.size,none⟩),?_, .up (.up (.ptr (fun c hgc => ?_) ⟨_,rfl⟩))⟩,by simp [rids,rid2,rid1]⟩
     ·simp [Instr.indexAt,asIntOf,Go.run_underlying hu,hoke.run_sizeOf,c1,c2,add_lit,Nat.add_mul]
     ·refine ⟨g,(off + i.toNat) * te.size,?_,by simp⟩
      unfold getRow at hgr
      unfold refAt at g3
      unfold ptrAt
      cases hl:look r h with
      | none=>simp [hl] at hgr
      | some x=>
       cases x with
       | box cs=>simp [hl] at hgr
       | row szr xsr dt=>
        simp only [hl] at hgr g3 ⊢
        exact ⟨_,_,bc,hgr,g3,e4,rfl⟩
   ·cases hr
  ·cases hr
 ·-- array
  rename_i n e' _ _ r p i' j k i hti
  obtain ⟨ii,dd,zz,hok⟩:=hT _ _ hti
  have hk:=hok.kok
  have hu:=hok.und
  cases dd<;>simp only [KOK] at hk
  obtain ⟨rfl,rfl⟩:=hk
  have:=hi.int_inv
  subst this
  have hv:=hx.ptr_inv
  split at hr
  ·rename_i te hte
   obtain ⟨ie,de,ze,hoke⟩:=hT _ _ hte
   split at hr
   ·rename_i hc
    injection hr with hr
    subst hr
    cases hv with
    | fv hf=>cases hf
    | ptr h1 h2=>
     obtain ⟨A,rfl⟩:=h2
     refine ⟨rfl,rfl,⟨.pointer (some (A.add (i.toNat * te.size))),?_, .up (.up (.ptr (fun c hgc => ?_) ⟨_,rfl⟩))⟩,by simp [rids,rid2,rid1]⟩
     ·simp [Instr.indexAt,asIntOf,Instr.sureAddr,Go.run_underlying hu,hoke.run_sizeOf,hc.1,hc.2]
     ·obtain ⟨g,o,g1,g2⟩:=h1 c hgc
      injection g2 with g2
      injection g2 with g2
      subst g2
      refine ⟨g,o,g1,?_⟩
      rw [add_lit]
      simp [Nat.add_assoc]
   ·cases hr
  ·cases hr
 ·cases hr
theorem FV.fptr_drop {cs:List AV} {A:Addr} (hf:FV w S (.fptr cs) (.pointer (some A))) (k:Nat):FV w S (.fptr (cs.drop k)) (.pointer (some (A.add k))):=by
 cases hf with
 | fptr vs ha hv hc=>
  rw [add_of ha]
  refine .fptr (fun j=>vs (k + j)) rfl (fun j a hj => ?_) (fun j a hj => ?_)
  ·rw [List.getElem?_drop] at hj
   obtain ⟨h1,h2⟩:=hv _ a hj
   refine ⟨h1,?_⟩
   rw [←h2]
   simp [Nat.add_assoc]
  ·rw [List.getElem?_drop] at hj
   exact hc _ a hj
theorem struct_field (hT:TOk P T) {t:TypeId} {fs:List (Nat × TypeId)} {eq:Bool} {size:Nat} {zero:List AV} (hti:T t=some ⟨.struct fs eq,size,zero⟩) {f off:Nat} {ft:TypeId} (hf:fs[f]? = some (off,ft)) :
  ∃ fields fd i,P.underlying t=some (.struct fields)∧fields[f]? = some fd∧fd.offset=off∧fd.type=ft∧P.info? ft=some i∧i.size≠0:=by
 obtain ⟨ii,dd,zz,hok⟩:=hT _ _ hti
 have hk:=hok.kok
 have hu:=hok.und
 cases dd<;>simp only [KOK] at hk
 rename_i fields
 obtain ⟨h1,h2,-⟩:=hk
 subst h1
 simp only [List.getElem?_map,Option.map_eq_some_iff,Prod.mk.injEq] at hf
 obtain ⟨fd,g1,g2,g3⟩:=hf
 obtain ⟨i,g4,g5⟩:=h2 fd (List.mem_of_getElem? g1)
 exact ⟨fields,fd,i,hu,by simpa using g1,g2,g3,by rw [←g3];exact g4,g5⟩
theorem fieldAddrAV_sound (hT:TOk P T) {t:TypeId} {x r:AV} {u:Value} {f:Nat} (hx:VR w S h ρ x u) (hr:fieldAddrAV T t x f=some r) :
  (∃ q,(Instr.fieldAt t u f).run P w = .ok q w∧VR w S h ρ r q)∧∀ q ∈ rids r,q ∈ rids x:=by
 unfold fieldAddrAV at hr
 split at hr
 ·rename_i fs _ _ _ hti
  split at hr
  ·rename_i off ft hf
   obtain ⟨fields,fd,i,hu,h1,h2,h3,h4,h5⟩:=struct_field hT hti hf
   have hrun:∀ A:Addr,(Instr.fieldAt t (.pointer (some A)) f).run P w = .ok (.pointer (some (A.add off))) w:=by
    intro A
    simp [Instr.fieldAt,Go.run_underlying hu,h1,Instr.sureAddr,fieldPlace,sizeOf,typeInfo,h2,h3,h4,h5]
   split at hr
   ·injection hr with hr
    subst hr
    have hv:=hx.ptr_inv
    cases hv with
    | fv hf=>cases hf
    | ptr g1 g2=>
     obtain ⟨A,rfl⟩:=g2
     refine ⟨⟨_,hrun A, .up (.up (.ptr (fun c hgc => ?_) ⟨_,rfl⟩))⟩,by simp [rids,rid2,rid1]⟩
     obtain ⟨g,o,k1,k2⟩:=g1 c hgc
     injection k2 with k2
     injection k2 with k2
     subst k2
     refine ⟨g,o,k1,?_⟩
     rw [add_lit]
     simp [Nat.add_assoc]
   ·injection hr with hr
    subst hr
    have hv:=hx.fptr_inv
    obtain ⟨A,rfl⟩:∃ A,u = .pointer (some A):=by cases hv;exact ⟨_,rfl⟩
    exact ⟨⟨_,hrun A, .up (.up (.fv (hv.fptr_drop off)))⟩,by simp [rids,rid2,rid1]⟩
   ·cases hr
  ·cases hr
 ·cases hr
theorem fieldAV_sound (hT:TOk P T) {t:TypeId} {x r:AV} {u:Value} {f:Nat} (hx:VR w S h ρ x u) (hr:fieldAV T t x f=some r) :
  (∃ q,(Instr.field t u f).run P w = .ok q w∧VR w S h ρ r q)∧∀ q ∈ rids r,q ∈ rids x:=by
 unfold fieldAV at hr
 split at hr
 ·rename_i fs _ _ _ cs hti
  split at hr
  ·rename_i off ft hf
   obtain ⟨fields,fd,i,hu,h1,h2,h3,h4,h5⟩:=struct_field hT hti hf
   obtain ⟨vs,rfl,v1,v2⟩:=hx.agg_inv
   split at hr
   ·rename_i tu htu
    obtain ⟨iu,du,zu,hoku⟩:=hT _ _ htu
    split at hr
    ·rename_i hlen
     have hlen':off + tu.size≤cs.length∨tu.size=0:=by
      simp at hlen
      omega
     have hne:tu.size≠0:=by
      have:=hoku.size
      have e:=hoku.info
      rw [h4] at e
      injection e with e
      rw [←this,←e]
      exact h5
     have hle:off + tu.size≤cs.length:=hlen'.resolve_right hne
     refine ⟨?_,?_⟩
     ·cases hag:tu.isAgg with
      | true=>
       rw [hag] at hr
       refine ⟨.agg (vs.extract off (off + tu.size)),?_,wrap1_agg hr ?_ ?_⟩
       ·simp [Instr.field,Go.run_underlying hu,h1,asAgg,part,h2,h3,hoku.run_isAgg,hag,hoku.run_sizeOf]
       ·simp [v1]
        omega
       ·intro k a v hk hv
        rw [List.getElem?_take] at hk
        split at hk
        ·rw [List.getElem?_drop] at hk
         rw [Array.getElem?_extract] at hv
         split at hv
         ·exact .up (v2 _ _ _ hk hv)
         ·cases hv
        ·cases hk
      | false=>
       rw [hag] at hr
       have h6:=wrap1_one hr
       have h7:cs[off]? = some r:=by
        have:((cs.drop off).take tu.size)[0]? = some r:=by rw [h6];rfl
        rw [List.getElem?_take] at this
        split at this
        ·simpa using this
        ·cases this
       have hlt:off < vs.size:=by rw [v1];exact lt_len h7
       refine ⟨vs[off],?_, .up (.up (v2 off r _ h7 (by simp [hlt])))⟩
       simp [Instr.field,Go.run_underlying hu,h1,asAgg,part,h2,h3,hoku.run_isAgg,hag,hlt]
     ·intro q hq
      have hsub:∀ c ∈ (cs.drop off).take tu.size,c ∈ cs:=fun c hc1=>List.mem_of_mem_drop (List.mem_of_mem_take hc1)
      obtain ⟨c,hc1,hc2⟩:=wrap1_rids hr (fun c hc=>by
       obtain ⟨k,hk⟩:=List.mem_iff_getElem?.1 (hsub c hc)
       exact (v2 k c _ hk (Array.getElem?_eq_getElem (by rw [v1];exact lt_len hk))).rids_eq.1) q hq
      simp only [rids,rid2,List.mem_flatMap]
      exact ⟨c,hsub c hc1,hc2⟩
    ·cases hr
   ·cases hr
  ·cases hr
 ·cases hr
end

section
variable {P:Program} {w:World} {S:Nat→Prop} {h:Heap} {ρ:Rho} {T:Types}
theorem load_cells {t:TypeId} {ti:TI} {i:TypeInfo} {d:TypeDesc} {z:Value} (hok:TIok P t ti i d z) {b o:Nat} {cs:List AV} {R:AV→Value→Prop} (hlen:cs.length=ti.size)
  (hc:∀ (k:Nat) (a:AV),cs[k]? = some a→∃ v,w.cell? ⟨b,o + k,none⟩=some v∧R a v) :
  (ti.isAgg=true→∃ vs:Array Value,(Instr.loadAt t (.pointer (some ⟨b,o,none⟩))).run P w = .ok (.agg vs) w∧vs.size=cs.length∧∀ (k:Nat) (a:AV) (v:Value),cs[k]? = some a→vs[k]? = some v→R a v)∧
  (ti.isAgg=false→∀ a,cs = [a]→∃ v,(Instr.loadAt t (.pointer (some ⟨b,o,none⟩))).run P w = .ok v w∧R a v):=by
 constructor
 ·intro hag
  have hv:∀ k,k < cs.length→∃ v,w.cell? ⟨b,o + k,none⟩=some v∧∀ a,cs[k]? = some a→R a v:=by
   intro k hk
   obtain ⟨v,h1,h2⟩:=hc k cs[k] (by simp [hk])
   refine ⟨v,h1,fun a ha => ?_⟩
   simp [hk] at ha
   subst ha
   exact h2
  obtain ⟨f,hf⟩:∃ f:Nat→Value,∀ k,k < cs.length→w.cell? ⟨b,o + k,none⟩=some (f k)∧∀ a,cs[k]? = some a→R a (f k):=by
   refine ⟨fun k=>if hk:k < cs.length then Classical.choose (hv k hk) else Go.undef,fun k hk => ?_⟩
   simp only [hk,dif_pos]
   exact Classical.choose_spec (hv k hk)
  have hdd:d.isRow=true:=by
   have hk:=hok.kok
   cases hti:ti.k<;>simp [TI.isAgg,hti] at hag<;>cases d<;>simp [hti,KOK] at hk<;>rfl
  have hrun:=run_loadAt_mid (P:=P) w b o t ((List.range cs.length).map f) d (fun j v hj=>by
    simp only [List.getElem?_map,Option.map_eq_some_iff] at hj
    obtain ⟨k,h1,h2⟩:=hj
    have h3:=lt_len h1
    simp at h3
    have:k=j:=by
     rw [List.getElem?_range h3] at h1
     simpa using h1.symm
    subst this
    rw [←h2]
    exact (hf k h3).1) hok.und hdd (by simp [hok.info,hok.size,hlen])
  refine ⟨_,hrun,by simp,fun k a v h1 h2 => ?_⟩
  have hk:=lt_len h1
  simp [hk] at h2
  subst h2
  exact (hf k hk).2 a h1
 ·intro hag a ha
  subst ha
  obtain ⟨v,h1,h2⟩:=hc 0 a rfl
  refine ⟨v,?_,h2⟩
  simp only [Nat.add_zero] at h1
  simp [Instr.loadAt,Instr.sureAddr,loadVar,hok.run_isAgg,hag,h1]
theorem refOf_get {r:Rid} {p:Path} {i:Nat}:∀ {cs:List AV} {j:Nat} {ds:List AV},refOf r p i j cs=some ds→ds.length=cs.length∧∀ (k:Nat) (a d:AV),cs[k]? = some a→ds[k]? = some d→
  (∃ sz xs,a = .row sz xs∧p=none∧d = .ref r (some (i,j + k)) sz 0 xs.length none)∨((∀ sz xs,a ≠ .row sz xs)∧d=a)
 | [],j,ds,h=>by
  simp only [refOf,Option.some.injEq] at h
  subst h
  exact ⟨rfl,fun k a d h1=>by simp at h1⟩
 | a :: cs,j,ds,h=>by
  by_cases ha:∃ sz xs,a = .row sz xs
  ·obtain ⟨sz,xs,rfl⟩:=ha
   simp only [refOf] at h
   split at h
   ·rename_i ds' hds
    simp only [Option.some.injEq] at h
    subst h
    obtain ⟨h1,h2⟩:=refOf_get hds
    refine ⟨by simp [h1],fun k a d h3 h4 => ?_⟩
    cases k with
    | zero=>simp at h3 h4;subst h3 h4;exact .inl ⟨sz,xs,rfl,rfl,rfl⟩
    | succ k=>
     have:=h2 k a d (by simpa using h3) (by simpa using h4)
     rw [show j + (k + 1)=j + 1 + k by omega]
     exact this
   ·cases h
  ·have hne:∀ sz xs,a ≠ .row sz xs:=fun sz xs e=>ha ⟨sz,xs,e⟩
   have:refOf r p i j (a :: cs)=match refOf r p i (j + 1) cs with
    | some ds=>some (a :: ds)
    | none=>none:=by
    cases a<;>first | rfl | exact absurd rfl (hne _ _)
   rw [this] at h
   split at h
   ·rename_i ds' hds
    simp only [Option.some.injEq] at h
    subst h
    obtain ⟨h1,h2⟩:=refOf_get hds
    refine ⟨by simp [h1],fun k x d h3 h4 => ?_⟩
    cases k with
    | zero=>simp at h3 h4;subst h3 h4;exact .inr ⟨hne,rfl⟩
    | succ k=>
     have:=h2 k x d (by simpa using h3) (by simpa using h4)
     rw [show j + (k + 1)=j + 1 + k by omega]
     exact this
   ·cases h
theorem OC.slice_inv {F:Nat→Prop} {sz:Nat} {xs:List (List AV)} {v:Value} (ho:OC w F (.row sz xs) v):∃ g c,v = .slice (addrOf g) xs.length c∧xs.length≤c∧(g=none→c=0):=by
 rcases ho.row_inv with ⟨h1,h2⟩ | ⟨g,cap,cs,ty,fr,Fs,e1,e2,e3,e4,e5,-⟩
 ·subst h1;exact ⟨none,0,h2,by simp,fun _=>rfl⟩
 ·exact ⟨some g,cap,e1,e5,by simp⟩
theorem chunk_refs {X:Fix} {Fr:Rid→Nat→Prop} (m:Mem X h ρ Fr w) {r:Rid} {p:Path} {i j n:Nat} {c:List AV} (hg:getChunk h r p i=some c) {g o:Nat} (hp:ptrAt w h ρ r p i g o)
  (hn:((c.drop j).take n).length=n) {ds:List AV} (hd:refOf r p i j ((c.drop j).take n)=some ds) :
  ∀ (k:Nat) (a:AV),ds[k]? = some a→∃ v,w.cell? ⟨g,o + j + k,none⟩=some v∧VB w X.S h ρ a v∧∀ q ∈ rids a,q=r∨∃ x,look r h=some x∧q ∈ ridsBox x:=by
 obtain ⟨hlen,hget⟩:=refOf_get hd
 intro k d hk
 have hkl:k < ((c.drop j).take n).length:=by rw [←hlen];exact lt_len hk
 have hka:((c.drop j).take n)[k]? = some ((c.drop j).take n)[k]:=List.getElem?_eq_getElem hkl
 generalize ((c.drop j).take n)[k]=a at hka
 have hca:c[j + k]? = some a:=by
  rw [List.getElem?_take] at hka
  split at hka
  ·simpa using hka
  ·cases hka
 rcases chunked m hg hp with ⟨cs,h1,h2,h3,h4,h5⟩ | ⟨szr,xsr,dt,sz,ys,bc,h1,h2,h3,h4,h5,h6,F,h7,h8⟩
 ·subst h4
  obtain ⟨v,h6,h7⟩:=h5 _ _ hca
  rcases hget k a d hka hk with ⟨sz,xs,rfl,rfl,rfl⟩ | ⟨h8,rfl⟩
  ·cases h7 with
   | up h7=>cases h7 with | fv h7=>cases h7
  ·refine ⟨v,by rw [←h6,Nat.add_assoc],h7,fun q hq => .inr ⟨_,h1,?_⟩⟩
   simp only [ridsBox,List.mem_flatMap]
   exact ⟨d,List.mem_of_getElem? hca,by rw [←h7.rids_eq];exact hq⟩
 ·have hy:ys ≠ []:=fun e=>by subst e;simp at h3
  rcases h8.row_inv with ⟨e,-⟩ | ⟨g',cap,cs,ty,fr,Fs,e1,e2,e3,e4,e5,e6,e7,e8,e9,e10⟩
  ·exact absurd e hy
  ·injection e1 with e1 _ _
   injection e1 with e1
   injection e1 with e1 _ _
   subst e1
   obtain ⟨u,k1,k2⟩:=e10 i (j + k) c a h3 hca
   have hcell:w.cell? ⟨g,o + j + k,none⟩=some u:=by
    rw [cell_of_heap e2,←k1,h6,Nat.add_assoc]
   refine ⟨u,hcell,?_⟩
   rcases hget k a d hka hk with ⟨sz',xs,rfl,rfl,rfl⟩ | ⟨h9,rfl⟩
   ·refine ⟨.up (.ref ?_ (by simp) ?_),fun q hq => .inl (by simpa [rids,rid2,rid1] using hq)⟩
    ·intro sz'' ys'' hgr
     simp only [subRow,Option.some.injEq,Prod.mk.injEq] at h2
     obtain ⟨rfl,rfl⟩:=h2
     unfold getRow at hgr
     rw [h1] at hgr
     simp only [subRow] at hgr
     split at hgr
     ·cases hgr
     ·rw [h3] at hgr
      simp only [hca,Option.some.injEq,Prod.mk.injEq] at hgr
      obtain ⟨rfl,rfl⟩:=hgr
      refine ⟨rfl,by simp,?_⟩
      obtain ⟨g2,c2,f1,f2,f3⟩:=k2.slice_inv
      refine ⟨(g2,c2),?_,?_⟩
      ·simp only [refAt,h1]
       simp only [placeAt] at h4
       subst h4
       refine ⟨g,xs.length,h5,?_⟩
       rw [←f1,←hcell,h6,Nat.add_assoc]
      ·refine ⟨_,_,f1,fun _=>⟨rfl,rfl⟩,fun h0 => ?_⟩
       cases g2 with
       | none=>have:=f3 rfl;omega
       | some g2=>exact ⟨g2,rfl,by simp [addrOf]⟩
    ·obtain ⟨g2,c2,f1,f2,f3⟩:=k2.slice_inv
     exact ⟨_,_,f1,f2,fun h=>f3 (by cases g2;rfl;cases h)⟩
   ·cases k2 with
    | int=>exact ⟨.up (.fv (.int _ _)),by simp [rids,rid2,rid1]⟩
    | bool=>exact ⟨.up (.fv (.bool _)),by simp [rids,rid2,rid1]⟩
    | str hs=>exact ⟨.up (.fv (.str hs)),by simp [rids,rid2,rid1]⟩
    | unk hu=>exact ⟨.up (.fv (.unk hu)),by simp [rids,rid2,rid1]⟩
    | nil=>exact absurd rfl (h9 _ _)
    | row=>exact absurd rfl (h9 _ _)
theorem wrap1_rids' {b:Bool} {cs:List AV} {r:AV} (hr:wrap1 b cs=some r) (hs:∀ (k:Nat) (c:AV),cs[k]? = some c→∃ v,VB w S h ρ c v):∀ q ∈ rids r,∃ c ∈ cs,q ∈ rids c:=by
 intro q hq
 cases b with
 | true=>
  obtain ⟨rfl,hp⟩:=wrap1_inv hr
  simp only [rids,rid2,List.mem_flatMap] at hq
  obtain ⟨c,h1,h2⟩:=hq
  obtain ⟨k,hk⟩:=List.mem_iff_getElem?.1 h1
  obtain ⟨v,hv⟩:=hs k c hk
  exact ⟨c,h1,by rw [(hv.to_va (hp c h1)).rids_eq.1];exact h2⟩
 | false=>
  have:=wrap1_one hr
  subst this
  exact ⟨r,by simp,hq⟩
theorem loadAV_sound {X:Fix} {Fr:Rid→Nat→Prop} (hT:TOk P T) (m:Mem X h ρ Fr w) {t:TypeId} {x:AV} {u:Value} {e:Eff} (hx:VR w X.S h ρ x u) (hr:loadAV T h t x=some e) :
  e.wr = []∧e.ok=True∧(∃ q,(Instr.loadAt t u).run P w = .ok q w∧VR w X.S h ρ e.out q)∧∀ q ∈ rids e.out,q ∈ rids x∨∃ r y,look r h=some y∧q ∈ ridsBox y:=by
 unfold loadAV at hr
 split at hr
 ·rename_i ti r p i j hti
  obtain ⟨ii,dd,zz,hok⟩:=hT _ _ hti
  have hv:=hx.ptr_inv
  split at hr
  ·rename_i c hg
   split at hr
   ·rename_i hlen
    split at hr
    ·rename_i ds hds
     split at hr
     ·rename_i v hw
      injection hr with hr
      subst hr
      cases hv with
      | fv hf=>cases hf
      | ptr h1 h2=>
       obtain ⟨g,o,g1,rfl⟩:=h1 c hg
       have key:=chunk_refs m hg g1 hlen hds
       have hdl:ds.length=ti.size:=by rw [(refOf_get hds).1,hlen]
       obtain ⟨l1,l2⟩:=load_cells (P:=P) (w:=w) hok (b:=g) (o:=o + j) (R:=fun a v=>VB w X.S h ρ a v) hdl (fun k a hk=>by
        obtain ⟨v,q1,q2,-⟩:=key k a hk
        exact ⟨v,q1,q2⟩)
       refine ⟨rfl,rfl,?_,?_⟩
       ·cases hag:ti.isAgg with
        | true=>
         obtain ⟨vs,q1,q2,q3⟩:=l1 hag
         rw [hag] at hw
         exact ⟨_,q1,wrap1_agg hw q2 q3⟩
        | false=>
         rw [hag] at hw
         obtain ⟨v',q1,q2⟩:=l2 hag _ (wrap1_one hw)
         exact ⟨_,q1, .up q2⟩
       ·intro q hq
        obtain ⟨d,hd1,hd2⟩:=wrap1_rids' hw (fun k c hk=>by
         obtain ⟨v,-,q2,-⟩:=key k c hk
         exact ⟨v,q2⟩) q hq
        obtain ⟨k,hk⟩:=List.mem_iff_getElem?.1 hd1
        obtain ⟨v,-,-,q3⟩:=key k d hk
        rcases q3 q hd2 with q4 | ⟨x,q4,q5⟩
        ·exact .inl (by simp [rids,rid2,rid1,q4])
        ·exact .inr ⟨r,x,q4,q5⟩
     ·cases hr
    ·cases hr
   ·cases hr
  ·cases hr
 ·rename_i ti cs hti
  obtain ⟨ii,dd,zz,hok⟩:=hT _ _ hti
  have hv:=hx.fptr_inv
  split at hr
  ·rename_i hlen
   split at hr
   ·rename_i v hw
    injection hr with hr
    subst hr
    cases hv with
    | @fptr _ A vs ha hv hc=>
     obtain ⟨b,o,sp⟩:=A
     simp only at ha
     subst ha
     have hget:∀ (k:Nat) (a:AV),(cs.take ti.size)[k]? = some a→cs[k]? = some a:=by
      intro k a hk
      rw [List.getElem?_take] at hk
      split at hk
      ·exact hk
      ·cases hk
     obtain ⟨l1,l2⟩:=load_cells (P:=P) (w:=w) hok (b:=b) (o:=o) (R:=fun a v=>VB w X.S h ρ a v) hlen (fun k a hk=>by
      exact ⟨_,(hv k a (hget k a hk)).2, .up (.fv (hc k a (hget k a hk)))⟩)
     refine ⟨rfl,rfl,?_,?_⟩
     ·cases hag:ti.isAgg with
      | true=>
       obtain ⟨us,q1,q2,q3⟩:=l1 hag
       rw [hag] at hw
       exact ⟨_,q1,wrap1_agg hw q2 q3⟩
      | false=>
       rw [hag] at hw
       obtain ⟨v',q1,q2⟩:=l2 hag _ (wrap1_one hw)
       exact ⟨_,q1, .up q2⟩
     ·intro q hq
      obtain ⟨d,hd1,hd2⟩:=wrap1_rids' (w:=w) (S:=X.S) (h:=h) (ρ:=ρ) hw (fun k c hk=>⟨_, .up (.fv (hc k c (hget k c hk)))⟩) q hq
      obtain ⟨k,hk⟩:=List.mem_iff_getElem?.1 hd1
      have hf:=hc k d (hget k d hk)
      rw [hf.norid.2.2] at hd2
      cases hd2
   ·cases hr
  ·cases hr
 ·cases hr
theorem idx_div {i j m:Nat} (hj:j < m):(i * m + j) / m=i∧(i * m + j) % m=j:=by
 constructor
 ·rw [Nat.mul_comm,Nat.mul_add_div (by omega),Nat.div_eq_of_lt hj];rfl
 ·rw [Nat.mul_comm,Nat.mul_add_mod,Nat.mod_eq_of_lt hj]
def flatten (n m:Nat) (f:Nat→Nat→Value):List Value:=(List.range (n * m)).map fun k=>f (k / m) (k % m)
theorem flatten_length (n m:Nat) (f:Nat→Nat→Value):(flatten n m f).length=n * m:=by simp [flatten]
theorem flatten_get {n m:Nat} {f:Nat→Nat→Value} {i j:Nat} (hi:i < n) (hj:j < m):(flatten n m f)[i * m + j]? = some (f i j):=by
 have hlt:i * m + j < n * m:=idx_lt hi hj (Nat.le_refl n) (Nat.le_refl _)
 obtain ⟨h1,h2⟩:=idx_div (i:=i) hj
 simp [flatten,hlt,h1,h2]
theorem flatten_get' {n m:Nat} {f:Nat→Nat→Value} {k:Nat} {v:Value} (h:(flatten n m f)[k]? = some v):k / m < n∧k % m < m∧v=f (k / m) (k % m)∧k / m * m + k % m=k:=by
 have hk:=lt_len h
 rw [flatten_length] at hk
 have hm:0 < m:=Nat.pos_of_ne_zero (fun e=>by subst e;simp at hk)
 simp [flatten,hk] at h
 exact ⟨Nat.div_lt_of_lt_mul (by rw [Nat.mul_comm];exact hk),Nat.mod_lt _ hm,h.symm,by rw [Nat.mul_comm];exact Nat.div_add_mod k m⟩
def Yields (w:World) (m:Nat) (ys:List (List AV)) (v:Value) (R:Nat→Nat→AV→Value→Prop):Prop:=
 ∃ (A:Option Addr) (c:Nat) (f:Nat→Nat→Value),v = .slice A ys.length c∧ys.length≤c∧(∀ (i:Nat) (c:List AV),ys[i]? = some c→c.length=m)∧
  (∀ (i j:Nat) (c:List AV) (a:AV),ys[i]? = some c→c[j]? = some a→∃ B,A=some B∧w.cell? (B.add (i * m + j))=some (f i j)∧R i j a (f i j))
theorem FC.yields {sz m:Nat} {xs:List (List AV)} {v:Value} (hf:FC w S (.row sz xs) v) (hsz:sz=m∨isNilL xs=true):Yields w m xs v (fun _ _ a u=>FC w S a u):=by
 cases hf with
 | nil=>exact ⟨none,0,fun _ _=>Go.undef,rfl,by simp,by simp,by simp⟩
 | @row _ _ A _ vs h1 h2 h3 h4=>
  by_cases hx:xs = []
  ·subst hx
   exact ⟨some A,_,fun _ _=>Go.undef,rfl,by simp,by simp,by simp⟩
  ·have hsz':sz=m:=hsz.resolve_right (fun e=>by cases xs<;>simp_all [isNilL])
   subst hsz'
   refine ⟨some A,_,vs,rfl,h1,h2,fun i j c a hi hj => ?_⟩
   obtain ⟨g1,g2,g3⟩:=h3 i j c a hi hj
   exact ⟨A,rfl,by rw [add_of g1];exact g3,h4 i j c a hi hj⟩
theorem OC.yields {F:Nat→Prop} {sz n off:Nat} {xs:List (List AV)} {g:Option Nat} {cap:Nat} {v:Value} (ho:(xs = []∧(g,cap)=(none,0))∨∃ g',g=some g'∧OC w F (.row sz xs) (.slice (some ⟨g',0,none⟩) xs.length cap))
  (hn:off + n≤xs.length) (hv:hdr (g,cap) sz off n v) (hc:∃ A c,v = .slice A n c∧n≤c):Yields w sz ((xs.drop off).take n) v (fun _ _ a u=>OC w F a u):=by
 obtain ⟨A,c,e1,e2,e3⟩:=hv
 obtain ⟨A',c',e1',e4⟩:=hc
 rw [e1] at e1'
 injection e1' with e5 _ e6
 subst e5 e6 e1
 have hlen:((xs.drop off).take n).length=n:=by simp;omega
 have hget:∀ (i:Nat) (c0:List AV),((xs.drop off).take n)[i]? = some c0→xs[off + i]? = some c0∧i < n:=by
  intro i c0 hi
  have:=lt_len hi
  rw [List.getElem?_take] at hi
  split at hi
  ·exact ⟨by simpa using hi,by omega⟩
  ·cases hi
 rcases ho with ⟨h1,h2⟩ | ⟨g',h1,h2⟩
 ·subst h1
  simp at hn
  obtain ⟨rfl,rfl⟩:=hn
  exact ⟨A,c,fun _ _=>Go.undef,by simp,by simp,by simp,by simp⟩
 ·rcases h2.row_inv with ⟨h3,-⟩ | ⟨g2,cap2,cs,ty,fr,Fs,f1,f2,f3,f4,f5,f6,f7,f8,f9,f10⟩
  ·subst h3
   simp at hn
   obtain ⟨rfl,rfl⟩:=hn
   exact ⟨A,c,fun _ _=>Go.undef,by simp,by simp,by simp,by simp⟩
  ·injection f1 with f1 _ _
   injection f1 with f1
   injection f1 with f1 _ _
   subst f1
   refine ⟨A,c,fun i j=>cs.getD ((off + i) * sz + j) Go.undef,by rw [hlen],by rw [hlen];exact e4,fun i c0 hi=>f9 _ _ (hget i c0 hi).1,fun i j c0 a hi hj => ?_⟩
   obtain ⟨g3,g4,g5⟩:=e3 (by have:=(hget i c0 hi).2;omega)
   subst g5
   rw [h1] at g4
   injection g4 with g4
   subst g4
   obtain ⟨u,k1,k2⟩:=f10 _ j c0 a (hget i c0 hi).1 hj
   have hu:cs.getD ((off + i) * sz + j) Go.undef=u:=by simp [k1]
   refine ⟨_,rfl,?_,?_⟩
   ·show _=some (cs.getD ((off + i) * sz + j) Go.undef)
    rw [add_lit,cell_of_heap f2,hu,←k1]
    congr 1
    simp only [Nat.add_mul]
    omega
   ·show OC w F a (cs.getD ((off + i) * sz + j) Go.undef)
    rw [hu]
    exact k2.mono (fun b hb=>(f7 _ _ b hb).1)
theorem elems_sound {X:Fix} {Fr:Rid→Nat→Prop} (m:Mem X h ρ Fr w) {sz:Nat} {x:AV} {v:Value} (hx:VR w X.S h ρ x v) {ys:List (List AV)} {rs:List Rid} (hr:elems h sz x=some (ys,rs)) :
  Yields w sz ys v (fun _ _ a u=>FC w (fun _=>True) a u):=by
 unfold elems at hr
 split at hr
 ·split at hr
  ·rename_i hsz
   simp only [Option.some.injEq,Prod.mk.injEq] at hr
   obtain ⟨rfl,rfl⟩:=hr
   exact (hx.frz_inv.1.mono (fun _ _=>trivial)).yields hsz
  ·cases hr
 ·rename_i r p sz' off n nl
  split at hr
  ·rename_i sz'' xs hg
   split at hr
   ·rename_i hc
    obtain ⟨rfl,rfl⟩:=hc
    simp only [Option.some.injEq,Prod.mk.injEq] at hr
    obtain ⟨rfl,rfl⟩:=hr
    have hv:=hx.ref_inv
    cases hv with
    | fv hf=>cases hf
    | ref h1 h2 h3=>
     obtain ⟨-,g2,bc,g3,g4⟩:=h1 _ _ hg
     obtain ⟨F,f1,f2⟩:=placed m hg g3
     obtain ⟨A,c,f,y1,y2,y3,y4⟩:=OC.yields (g:=bc.1) (cap:=bc.2) (F:=F) f2 g2 g4 (by obtain ⟨A,c,q1,q2,-⟩:=h3;exact ⟨A,c,q1,q2⟩)
     exact ⟨A,c,f,y1,y2,y3,fun i j c a hi hj=>by
      obtain ⟨B,z1,z2,z3⟩:=y4 i j c a hi hj
      exact ⟨B,z1,z2,z3.read fun _ _=>trivial⟩⟩
   ·cases hr
  ·cases hr
 ·cases hr
end

section
variable {P:Program} {w:World} {S:Nat→Prop} {h:Heap} {ρ:Rho} {T:Types}
theorem bytesToList_get:∀ {ys:List (List AV)} {l:List UInt8},bytesToList ys=some l→∃ ns:List Int,ys=ns.map (fun n => [AV.int .u8 n])∧l=ns.map (fun n=>UInt8.ofNat n.toNat)
 | [],l,h=>by
  simp only [bytesToList,Option.some.injEq] at h
  subst h
  exact ⟨[],rfl,rfl⟩
 | y :: ys,l,h=>by
  unfold bytesToList at h
  split at h
  ·rename_i e;cases e
  ·rename_i n r e
   injection e with e1 e2
   subst e1 e2
   simp only [Option.map_eq_some_iff] at h
   obtain ⟨l',h1,h2⟩:=h
   obtain ⟨ns,h3,h4⟩:=bytesToList_get h1
   exact ⟨n :: ns,by simp [h3],by simp [←h2,h4]⟩
  ·cases h
theorem fold_push (ns:List Int):∀ s:ByteArray,(ns.foldl (fun r n=>r.push (UInt8.ofNat n.toNat)) s).data.toList=s.data.toList++ns.map (fun n=>UInt8.ofNat n.toNat):=by
 induction ns with
 | nil=>intro s;simp
 | cons n ns ih=>
  intro s
  simp only [List.foldl_cons,List.map_cons]
  rw [ih]
  simp
theorem bytes_string {src dst e:TypeId} (hs:P.underlying src=some (.slice e)) (he:P.underlying e=some (.int .u8)) (hd:P.underlying dst=some .string) {ys:List (List AV)} {l:List UInt8} (hl:bytesToList ys=some l) {v:Value}
  (hy:Yields w 1 ys v (fun _ _ a u=>FC w (fun _=>True) a u)):∃ s,(convert src dst v).run P w = .ok (.string s) w∧s.data.toList=l:=by
 obtain ⟨A,c,f,rfl,h1,h2,h3⟩:=hy
 obtain ⟨ns,rfl,rfl⟩:=bytesToList_get hl
 rw [run_convert_bytes_string w src dst e A _ c hs he hd]
 cases A with
 | none=>
  have:ns = []:=by
   cases ns with
   | nil=>rfl
   | cons n ns=>
    obtain ⟨B,hB,-⟩:=h3 0 0 [.int .u8 n] (.int .u8 n) rfl rfl
    cases hB
  subst this
  exact ⟨ByteArray.empty,by simp [Conv.bytesToString],rfl⟩
 | some B=>
  have hload:(loadCells B (ns.map (Value.int .u8)).length).run P w = .ok (ns.map (Value.int .u8)).toArray w:=run_loadCells_list (P:=P) w B _ (fun j v hj=>by
   simp only [List.getElem?_map,Option.map_eq_some_iff] at hj
   obtain ⟨n,hn,rfl⟩:=hj
   obtain ⟨B',e1,e2,e3⟩:=h3 j 0 [.int .u8 n] (.int .u8 n) (by simp [hn]) rfl
   injection e1 with e1
   subst e1
   have:f j 0 = .int .u8 n:=by
    generalize f j 0=q at e3
    cases e3;rfl
   rw [←this,←e2]
   simp)
  simp only [List.length_map] at hload ⊢
  refine ⟨_,run_bytesToString w B ns.length c ns hload,?_⟩
  rw [fold_push]
  simp
theorem setCells_get:∀ (vs cs:List AV) (j:Nat),j + vs.length≤cs.length→(setCells cs j vs).length=cs.length∧∀ k,(setCells cs j vs)[k]? = if j≤k∧k < j + vs.length then vs[k - j]? else cs[k]?
 | [],cs,j,_=>by simp [setCells];intro k h1 h2;omega
 | v :: vs,cs,j,hj=>by
  simp only [List.length_cons] at hj
  obtain ⟨h1,h2⟩:=setCells_get vs (cs.set j v) (j + 1) (by simp;omega)
  simp only [setCells]
  refine ⟨by simp [h1],fun k => ?_⟩
  rw [h2 k]
  by_cases hk:k=j
  ·subst hk
   simp
   rw [if_neg (by omega),List.getElem?_set]
   simp
   omega
  ·by_cases hk2:j + 1≤k∧k < j + 1 + vs.length
   ·rw [if_pos hk2,if_pos (by simp;omega)]
    have:k - j=(k - (j + 1)) + 1:=by omega
    rw [this]
    simp
   ·rw [if_neg hk2,if_neg (by simp;omega),List.getElem?_set]
    simp [Ne.symm hk]
def setL:Array Value→Nat→List Value→Array Value
 | cs,_,[]=>cs
 | cs,o,v :: vs=>setL (cs.setIfInBounds o v) (o + 1) vs
theorem setL_get:∀ (vs:List Value) (cs:Array Value) (o:Nat),(setL cs o vs).size=cs.size∧(o + vs.length≤cs.size→∀ k,(setL cs o vs)[k]? = if o≤k∧k < o + vs.length then vs[k - o]? else cs[k]?)
 | [],cs,o=>by
  refine ⟨rfl,fun _ k => ?_⟩
  simp [setL]
  intro h1 h2;omega
 | v :: vs,cs,o=>by
  obtain ⟨h1,h2⟩:=setL_get vs (cs.setIfInBounds o v) (o + 1)
  simp only [setL]
  refine ⟨by simp [h1],fun ho k => ?_⟩
  simp only [List.length_cons] at ho
  rw [h2 (by simp;omega) k]
  by_cases hk:k=o
  ·subst hk
   simp
   rw [if_neg (by omega),Array.getElem?_setIfInBounds]
   simp
   omega
  ·by_cases hk2:o + 1≤k∧k < o + 1 + vs.length
   ·rw [if_pos hk2,if_pos (by simp;omega)]
    have:k - o=(k - (o + 1)) + 1:=by omega
    rw [this]
    simp
   ·rw [if_neg hk2,if_neg (by simp;omega),Array.getElem?_setIfInBounds]
    simp [Ne.symm hk]
theorem fill_fold (vs:List Value):∀ (o k:Nat) (cs:Array Value),(vs.zipIdx k).foldl (fun cs (p:Value × Nat)=>cs.setIfInBounds (o + p.2) p.1) cs=setL cs (o + k) vs:=by
 induction vs with
 | nil=>intro o k cs;rfl
 | cons v vs ih=>
  intro o k cs
  simp only [List.zipIdx_cons,List.foldl_cons,setL]
  rw [ih]
  rfl
theorem fill_cons (place:Nat→Option (Nat × Nat)) (cells:Array Value) (i:Nat) (v:Value) (rest:List (Nat × Value)) {off size:Nat} (hp:place i=some (off,size)) (h1:v.cells.size=size) (h2:off + size≤cells.size) :
  Instr.fill place cells ((i,v) :: rest)=Instr.fill place (setL cells off v.cells.toList) rest:=by
 rw [Instr.fill]
 simp only [hp]
 rw [if_neg (by simp [h1];omega)]
 congr 1
 have:=fill_fold v.cells.toList off 0 cells
 rw [←Array.foldl_toList,Array.toList_zipIdx]
 simpa using this
theorem fillStruct_sound {fs:List (Nat × TypeId)} {place:Nat→Option (Nat × Nat)} (hp:∀ i off t ti,fs[i]? = some (off,t)→T t=some ti→place i=some (off,ti.size)) :
  ∀ {ps:List (Nat × AV)} {us:List (Nat × Value)} {cs ds:List AV} {vs:Array Value},fillStruct T fs cs ps=some ds→us.length=ps.length→
  (∀ (k i:Nat) (a:AV),ps[k]? = some (i,a)→∃ u,us[k]? = some (i,u)∧VR w S h ρ a u)→vs.size=cs.length→(∀ (k:Nat) (a:AV) (v:Value),cs[k]? = some a→vs[k]? = some v→VB w S h ρ a v)→
  ∃ vs',Instr.fill place vs us=some vs'∧vs'.size=ds.length∧∀ (k:Nat) (a:AV) (v:Value),ds[k]? = some a→vs'[k]? = some v→VB w S h ρ a v
 | [],us,cs,ds,vs,hf,hl,_,hn,hc=>by
  simp only [fillStruct,Option.some.injEq] at hf
  subst hf
  have:us = []:=List.eq_nil_of_length_eq_zero hl
  subst this
  exact ⟨vs,rfl,hn,hc⟩
 |(i,a) :: ps,us,cs,ds,vs,hf,hl,hu,hn,hc=>by
  obtain ⟨u,h1,h2⟩:=hu 0 i a rfl
  cases us with
  | nil=>simp at h1
  | cons u0 us=>
   simp at h1
   subst h1
   simp only [fillStruct] at hf
   split at hf
   ·rename_i off t hfi
    split at hf
    ·rename_i ti hti
     split at hf
     ·rename_i hc2
      obtain ⟨c1,c2,c3⟩:=hc2
      obtain ⟨d1,d2⟩:=h2.cells c3
      have hv1:u.cells.size=ti.size:=by rw [d1,c1]
      have hle:off + u.cells.toList.length≤vs.size:=by simp [hv1,hn];omega
      obtain ⟨s1,s2⟩:=setL_get u.cells.toList vs off
      obtain ⟨s3,s4⟩:=setCells_get (cellsOf a) cs off (by rw [c1];exact c2)
      obtain ⟨vs',f1,f2,f3⟩:=fillStruct_sound hp (us:=us) (vs:=setL vs off u.cells.toList) hf (by simpa using hl) (fun k i a hk=>by
        obtain ⟨u',q1,q2⟩:=hu (k + 1) i a (by simpa using hk)
        exact ⟨u',by simpa using q1,q2⟩) (by rw [s1,s3,hn]) (fun k x v hk hv=>by
       rw [s4] at hk
       rw [s2 hle] at hv
       simp only [Array.length_toList,hv1,c1] at hk hv
       split at hk
       ·rename_i hr
        rw [if_pos hr] at hv
        exact (d2 _ x v hk (by simpa using hv)).1
       ·rename_i hr
        rw [if_neg hr] at hv
        exact hc k x v hk hv)
      refine ⟨vs',?_,f2,f3⟩
      rw [fill_cons place vs i u us (hp i off t ti hfi hti) hv1 (by rw [hn];exact c2)]
      exact f1
     ·cases hf
    ·cases hf
   ·cases hf
theorem places_of (hT:TOk P T):∀ (fl:List Field),(∀ f ∈ fl,∃ i,P.info? f.type=some i∧i.size≠0)→∃ places,fl.mapM (fun f=>(P.info? f.type).map fun i=>(f.offset,i.size))=some places∧
  ∀ (k off:Nat) (t:TypeId) (ti:TI),(fl.map fun f=>(f.offset,f.type))[k]? = some (off,t)→T t=some ti→places[k]? = some (off,ti.size)
 | [],_=>⟨[],by simp,by simp⟩
 | f :: fl,hf=>by
  obtain ⟨i,h1,h2⟩:=hf f (by simp)
  obtain ⟨places,h3,h4⟩:=places_of hT fl (fun g hg=>hf g (by simp [hg]))
  refine ⟨(f.offset,i.size) :: places,by simp [h1,h3],fun k off t ti hk ht => ?_⟩
  cases k with
  | zero=>
   simp at hk
   obtain ⟨rfl,rfl⟩:=hk
   obtain ⟨ii,d,z,hok⟩:=hT _ _ ht
   have:=hok.info
   rw [h1] at this
   injection this with this
   simp [this,hok.size]
  | succ k=>simpa using h4 k off t ti (by simpa using hk) ht
theorem build_sound (hT:TOk P T) {t:TypeId} {fs:List (Nat × TypeId)} {eq:Bool} {size:Nat} {zero:List AV} (hti:T t=some ⟨.struct fs eq,size,zero⟩) {ps:List (Nat × AV)} {parts:Array (Nat × Value)} {ds:List AV}
  (hr:fillStruct T fs zero ps=some ds) (hl:parts.size=ps.length) (hu:∀ (k i:Nat) (a:AV),ps[k]? = some (i,a)→∃ u,parts.toList[k]? = some (i,u)∧VR w S h ρ a u) :
  ∃ vs,(Instr.build t parts).run P w = .ok (.agg vs) w∧vs.size=ds.length∧∀ (k:Nat) (a:AV) (v:Value),ds[k]? = some a→vs[k]? = some v→VB w S h ρ a v:=by
 obtain ⟨ii,dd,zz,hok⟩:=hT _ _ hti
 have hk:=hok.kok
 have hun:=hok.und
 cases dd<;>simp only [KOK] at hk
 rename_i fields
 obtain ⟨h1,h2,-⟩:=hk
 subst h1
 obtain ⟨places,p1,p2⟩:=places_of hT fields.toList h2
 obtain ⟨vs,f1,f2,f3⟩:=fillStruct_sound (w:=w) (S:=S) (h:=h) (ρ:=ρ) (T:=T) (place:=(places.toArray[·]?)) (fun i off t ti a1 a2=>by simpa using p2 i off t ti a1 a2) (us:=parts.toList) (vs:=zz.cells) hr
  (by simpa using hl) hu (by rw [hok.zsize,hok.zlen]) (fun k a v a1 a2 => .up (.fv (hok.zok k a v a1 a2).fv))
 refine ⟨vs,run_build w t parts vs ?_,f2,f3⟩
 simp only [Program.built,hok.info,hun,hok.zero,p1]
 exact f1
theorem evList_get {s:St}:∀ {xs:List Operand} {as:List AV},evList s xs=some as→as.length=xs.length∧∀ (k:Nat) (a:AV),as[k]? = some a→∃ x,xs[k]? = some x∧s.ev x=some a
 | [],as,h=>by
  simp only [evList,Option.some.injEq] at h
  subst h
  exact ⟨rfl,by simp⟩
 | x :: xs,as,h=>by
  simp only [evList] at h
  split at h
  ·rename_i a as' h1 h2
   simp only [Option.some.injEq] at h
   subst h
   obtain ⟨g1,g2⟩:=evList_get h2
   refine ⟨by simp [g1],fun k b hk => ?_⟩
   cases k with
   | zero=>simp at hk;subst hk;exact ⟨x,rfl,h1⟩
   | succ k=>simpa using g2 k b (by simpa using hk)
  ·cases h
theorem evParts_get {s:St}:∀ {xs:List (Nat × Operand)} {as:List (Nat × AV)},evParts s xs=some as→as.length=xs.length∧∀ (k i:Nat) (a:AV),as[k]? = some (i,a)→∃ x,xs[k]? = some (i,x)∧s.ev x=some a
 | [],as,h=>by
  simp only [evParts,Option.some.injEq] at h
  subst h
  exact ⟨rfl,by simp⟩
 |(i,x) :: xs,as,h=>by
  simp only [evParts] at h
  split at h
  ·rename_i a as' h1 h2
   simp only [Option.some.injEq] at h
   subst h
   obtain ⟨g1,g2⟩:=evParts_get h2
   refine ⟨by simp [g1],fun k j b hk => ?_⟩
   cases k with
   | zero=>simp at hk;obtain ⟨rfl,rfl⟩:=hk;exact ⟨x,rfl,h1⟩
   | succ k=>simpa using g2 k j b (by simpa using hk)
  ·cases h
theorem fillStruct_mem {fs:List (Nat × TypeId)} {R:AV→Prop}:∀ {ps:List (Nat × AV)} {cs ds:List AV},fillStruct T fs cs ps=some ds→(∀ c ∈ cs,R c)→(∀ p ∈ ps,∀ c ∈ cellsOf p.2,R c)→∀ d ∈ ds,R d
 | [],cs,ds,hf,hc,_=>by
  simp only [fillStruct,Option.some.injEq] at hf
  subst hf
  exact hc
 |(i,a) :: ps,cs,ds,hf,hc,hp=>by
  simp only [fillStruct] at hf
  split at hf
  ·split at hf
   ·split at hf
    ·rename_i hc2
     refine fillStruct_mem hf (fun c hm => ?_) (fun p hm=>hp p (by simp [hm]))
     obtain ⟨k,hk⟩:=List.mem_iff_getElem?.1 hm
     rw [(setCells_get _ _ _ (by rw [hc2.1];exact hc2.2.1)).2] at hk
     split at hk
     ·exact hp (i,a) (by simp) c (List.mem_of_getElem? hk)
     ·exact hc c (List.mem_of_getElem? hk)
    ·cases hf
   ·cases hf
  ·cases hf
end

section
variable {X:Fix} {h h':Heap} {ρ ρ':Rho} {Fr Fr':Rid→Nat→Prop} {w w':World}
theorem OC.base {F:Nat→Prop} {sz:Nat} {xs:List (List AV)} {g n c:Nat} (ho:OC w F (.row sz xs) (.slice (some ⟨g,0,none⟩) n c)):F g:=by
 rcases ho.row_inv with ⟨-,h2⟩ | ⟨g',cap,cs,ty,fr,Fs,e1,e2,e3,e4,e5,e6,-⟩
 ·cases h2
 ·injection e1 with e1 _ _
  injection e1 with e1
  injection e1 with e1 _ _
  subst e1
  exact e6
theorem Mem.block (m:Mem X h ρ Fr w) {r:Rid} {x:Root} {g:Nat} (hl:look r h=some x) (hg:(ρ r).1=some g):Fr r g:=by
 have hx:=m.root r x hl
 cases x with
 | row sz xs dt=>
  rcases hx with ⟨g',h4,h5,h6⟩ | ⟨h4,h5⟩
  ·rw [hg] at h4
   injection h4 with h4
   subst h4
   exact h5.base
  ·rw [h4] at hg;cases hg
 | box cs=>
  obtain ⟨g',vs,ty,fr,h4,h5,h6,h7,h8,-⟩:=hx
  rw [hg] at h4
  injection h4 with h4
  subst h4
  exact h8
theorem Mem.change (m:Mem X h ρ Fr w) (W Q:Rid→Prop) (hXS:∀ b,X.S b→b < X.w0.heap.size)
  (un:∀ r,¬ W r→look r h'=look r h∧ρ' r=ρ r∧Fr' r=Fr r)
  (hos:w'.os=w.os) (htape:w'.tape=w.tape) (hout:w'.output=w.output) (hsize:w.heap.size≤w'.heap.size)
  (keep:∀ b,b < w.heap.size→(∀ r x,W r→look r h=some x→¬ Fr r b)→w'.heap[b]? = w.heap[b]?)
  (chg:∀ b r x,W r→look r h=some x→Fr r b→b < X.w0.heap.size→ObjSame (X.Chg b) w.heap[b]? w'.heap[b]?)
  (aff:∀ r x,W r→look r h'=some x→RootOK X w' h' ρ' (Fr' r) (ρ' r) x)
  (foot:∀ r x b,W r→look r h'=some x→Fr' r b→b < w'.heap.size∧(w.heap.size≤b∨∃ q y,W q∧look q h=some y∧Fr q b))
  (disj:∀ r x r' x' b,W r→W r'→look r h'=some x→look r' h'=some x'→Fr' r b→Fr' r' b→r=r')
  (hQ:∀ r x q,look r h=some x→q ∈ ridsBox x→Q q) (hW:∀ q,W q→Q q→Compat w h ρ w' h' ρ' q) :
  Mem X h' ρ' Fr' w'∧(∀ b,X.S b→b < w.heap.size→w'.heap[b]? = w.heap[b]?)∧∀ r,Q r→Compat w h ρ w' h' ρ' r:=by
 have hkeepr:∀ r x b,¬ W r→look r h=some x→Fr r b→w'.heap[b]? = w.heap[b]?:=fun r x b hr hx hb=>
  keep b (m.foot r x b hx hb).1 (fun q y hq hy hb'=>hr (m.disj r x q y b hx hy hb hb' ▸ hq))
 have hS:∀ b,X.S b→b < w.heap.size→w'.heap[b]? = w.heap[b]?:=fun b hb hlt=>keep b hlt (fun r x hr hx hf=>(m.foot r x b hx hf).2 hb)
 have hC:∀ r,Q r→Compat w h ρ w' h' ρ' r:=by
  intro r hq
  by_cases hr:W r
  ·exact hW r hr hq
  ·obtain ⟨h1,h2,-⟩:=un r hr
   refine Compat.still h1 h2 (fun g hg hsome => ?_)
   obtain ⟨x,hx⟩:=Option.isSome_iff_exists.1 hsome
   exact hkeepr r x g hr hx (m.block hx hg)
 refine ⟨Mem.step W m hS hos htape hout hsize (fun b hb hb0 => ?_) un hkeepr aff (fun r x b hr hx hb => ?_) (fun r x r' x' b hr hx hx' hb hb' => ?_) (fun r x q hr hx hq=>hC q (hQ r x q hx hq)),hS,hC⟩
 ·by_cases hex:∃ r x,W r∧look r h=some x∧Fr r b
  ·obtain ⟨r,x,h1,h2,h3⟩:=hex
   exact chg b r x h1 h2 h3 hb0
  ·exact .inl (keep b hb (fun r x h1 h2 h3=>hex ⟨r,x,h1,h2,h3⟩))
 ·obtain ⟨h1,h2⟩:=foot r x b hr hx hb
  refine ⟨h1,fun hs => ?_⟩
  rcases h2 with h2 | ⟨q,y,h3,h4,h5⟩
  ·have:=hXS b hs
   have:=m.size
   omega
  ·exact (m.foot q y b h4 h5).2 hs
 ·by_cases hr':W r'
  ·exact disj r x r' x' b hr hr' hx hx' hb hb'
  ·obtain ⟨h1,-,h3⟩:=un r' hr'
   rw [h1] at hx'
   rw [h3] at hb'
   rcases (foot r x b hr hx hb).2 with h2 | ⟨q,y,h4,h5,h6⟩
   ·have:=(m.foot r' x' b hx' hb').1
    omega
   ·exact absurd (m.disj r' x' q y b hx' h5 hb' h6 ▸ h4) hr'
def Rows (w:World) (F:Nat→Prop) (sz:Nat) (xs:List (List AV)) (f:Nat→Nat→Value):Prop:=
 ∃ Fs:Nat→Nat→Nat→Prop,(∀ i j b,Fs i j b→F b)∧(∀ i j i' j' b,Fs i j b→Fs i' j' b→i=i'∧j=j')∧
  (∀ (i:Nat) (c:List AV),xs[i]? = some c→c.length=sz)∧∀ (i j:Nat) (c:List AV) (a:AV),xs[i]? = some c→c[j]? = some a→OC w (Fs i j) a (f i j)
theorem Rows.row {F:Nat→Prop} {sz:Nat} {xs:List (List AV)} {f:Nat→Nat→Value} (hr:Rows w F sz xs f) {g cap:Nat} {cs:Array Value} {ty:TypeId} {fr:Nat × Nat} (hh:w.heap[g]? = some (.cells cs ty fr))
  (ht:Thaw cs fr) (hcap:cap * sz≤cs.size) (hlen:xs.length≤cap) (hg:¬ F g) (hf:∀ (i j:Nat) (c:List AV) (a:AV),xs[i]? = some c→c[j]? = some a→cs[i * sz + j]? = some (f i j)) :
  OC w (fun b=>b=g∨F b) (.row sz xs) (.slice (some ⟨g,0,none⟩) xs.length cap):=by
 obtain ⟨Fs,h1,h2,h3,h4⟩:=hr
 refine .row Fs hh ht hcap hlen (.inl rfl) (fun i j b hb=>⟨.inr (h1 i j b hb),fun e=>hg (e ▸ h1 i j b hb)⟩) h2 h3 (fun i j c a v hi hj hv => ?_)
 rw [hf i j c a hi hj] at hv
 injection hv with hv
 subst hv
 exact h4 i j c a hi hj
theorem Rows.move {F:Nat→Prop} {sz:Nat} {xs:List (List AV)} {f:Nat→Nat→Value} (hr:Rows w F sz xs f) (hm:∀ b,F b→w'.heap[b]? = w.heap[b]?):Rows w' F sz xs f:=by
 obtain ⟨Fs,h1,h2,h3,h4⟩:=hr
 exact ⟨Fs,h1,h2,h3,fun i j c a hi hj=>(h4 i j c a hi hj).move fun b hb=>hm b (h1 i j b hb)⟩
theorem Rows.mono {F F':Nat→Prop} {sz:Nat} {xs:List (List AV)} {f:Nat→Nat→Value} (hr:Rows w F sz xs f) (hm:∀ b,F b→F' b):Rows w F' sz xs f:=by
 obtain ⟨Fs,h1,h2,h3,h4⟩:=hr
 exact ⟨Fs,fun i j b hb=>hm b (h1 i j b hb),h2,h3,h4⟩
theorem Rows.take {F:Nat→Prop} {sz:Nat} {xs:List (List AV)} {f:Nat→Nat→Value} (hr:Rows w F sz xs f) (n:Nat):Rows w F sz (xs.take n) f:=by
 obtain ⟨Fs,h1,h2,h3,h4⟩:=hr
 have hget:∀ (i:Nat) (c:List AV),(xs.take n)[i]? = some c→xs[i]? = some c:=fun i c hi=>by
  rw [List.getElem?_take] at hi
  split at hi
  ·exact hi
  ·cases hi
 exact ⟨Fs,h1,h2,fun i c hi=>h3 i c (hget i c hi),fun i j c a hi hj=>h4 i j c a (hget i c hi) hj⟩
theorem Rows.append {F G:Nat→Prop} {sz:Nat} {xs ys:List (List AV)} {f g:Nat→Nat→Value} (hr:Rows w F sz xs f) (hs:Rows w G sz ys g) (hFG:∀ b,F b→¬ G b) :
  Rows w (fun b=>F b∨G b) sz (xs++ys) (fun i j=>if i < xs.length then f i j else g (i - xs.length) j):=by
 obtain ⟨Fs,h1,h2,h3,h4⟩:=hr
 obtain ⟨Gs,k1,k2,k3,k4⟩:=hs
 refine ⟨fun i j b=>(i < xs.length∧Fs i j b)∨(xs.length≤i∧Gs (i - xs.length) j b),?_,?_,?_,?_⟩
 ·rintro i j b (⟨-,hb⟩ | ⟨-,hb⟩)
  ·exact .inl (h1 i j b hb)
  ·exact .inr (k1 _ j b hb)
 ·rintro i j i' j' b (⟨a1,hb⟩ | ⟨a1,hb⟩) (⟨a2,hb'⟩ | ⟨a2,hb'⟩)
  ·exact h2 i j i' j' b hb hb'
  ·exact absurd (k1 _ _ _ hb') (hFG b (h1 _ _ _ hb))
  ·exact absurd (k1 _ _ _ hb) (hFG b (h1 _ _ _ hb'))
  ·obtain ⟨e1,e2⟩:=k2 _ _ _ _ b hb hb'
   exact ⟨by omega,e2⟩
 ·intro i c hi
  rw [List.getElem?_append] at hi
  split at hi
  ·exact h3 i c hi
  ·exact k3 _ c hi
 ·intro i j c a hi hj
  rw [List.getElem?_append] at hi
  split at hi
  ·rename_i hlt
   show OC w _ a (if i < xs.length then f i j else g (i - xs.length) j)
   rw [if_pos hlt]
   exact (h4 i j c a hi hj).mono fun b hb => .inl ⟨hlt,hb⟩
  ·rename_i hlt
   show OC w _ a (if i < xs.length then f i j else g (i - xs.length) j)
   rw [if_neg hlt]
   exact (k4 _ j c a hi hj).mono fun b hb => .inr ⟨by omega,hb⟩
theorem Rows.congr {F:Nat→Prop} {sz:Nat} {xs:List (List AV)} {f g:Nat→Nat→Value} (hr:Rows w F sz xs f) (hfg:∀ i j,i < xs.length→j < sz→g i j=f i j):Rows w F sz xs g:=by
 obtain ⟨Fs,h1,h2,h3,h4⟩:=hr
 refine ⟨Fs,h1,h2,h3,fun i j c a hi hj => ?_⟩
 rw [hfg i j (lt_len hi) (by rw [←h3 i c hi];exact lt_len hj)]
 exact h4 i j c a hi hj
theorem FC.flat {S:Nat→Prop} {a:AV} {v:Value} (hf:FC w S a v) (hc:flatC a=true) (F:Nat→Prop):OC w F a v:=by
 cases hf with
 | int=>exact .int _ _
 | bool=>exact .bool _
 | str h=>exact .str h
 | unk h=>exact .unk h
 | nil=>simp [flatC,flatCell] at hc
 | row=>simp [flatC,flatCell] at hc
theorem Rows.flat {S:Nat→Prop} {sz:Nat} {xs:List (List AV)} {f:Nat→Nat→Value} (hx:Flat xs) (hsz:∀ (i:Nat) (c:List AV),xs[i]? = some c→c.length=sz)
  (hf:∀ (i j:Nat) (c:List AV) (a:AV),xs[i]? = some c→c[j]? = some a→FC w S a (f i j)):Rows w (fun _=>False) sz xs f:=
 ⟨fun _ _ _=>False,fun _ _ _ hb=>hb,fun _ _ _ _ _ hb=>hb.elim,hsz,fun i j c a hi hj=>(hf i j c a hi hj).flat (hx c (List.mem_of_getElem? hi) a (List.mem_of_getElem? hj)) _⟩
theorem OC.rows {F:Nat→Prop} {sz:Nat} {xs:List (List AV)} {v:Value} (ho:OC w F (.row sz xs) v) :
  (xs = []∧v = .slice none 0 0)∨∃ (g cap:Nat) (cs:Array Value) (ty:TypeId) (fr:Nat × Nat),v = .slice (some ⟨g,0,none⟩) xs.length cap∧w.heap[g]? = some (.cells cs ty fr)∧Thaw cs fr∧cap * sz≤cs.size∧
   xs.length≤cap∧F g∧Rows w (fun b=>F b∧b≠g) sz xs (fun i j=>cs.getD (i * sz + j) Go.undef)∧∀ i j,i < xs.length→j < sz→cs[i * sz + j]? = some (cs.getD (i * sz + j) Go.undef):=by
 rcases ho.row_inv with h1 | ⟨g,cap,cs,ty,fr,Fs,e1,e2,e3,e4,e5,e6,e7,e8,e9,e10⟩
 ·exact .inl h1
 ·refine .inr ⟨g,cap,cs,ty,fr,e1,e2,e3,e4,e5,e6,⟨Fs,e7,e8,e9,fun i j c a hi hj => ?_⟩,fun i j hi hj => ?_⟩
  ·obtain ⟨u,k1,k2⟩:=e10 i j c a hi hj
   have:cs.getD (i * sz + j) Go.undef=u:=by simp [k1]
   show OC w _ a (cs.getD (i * sz + j) Go.undef)
   rw [this]
   exact k2
  ·have hlt:i * sz + j < cs.size:=idx_lt hi hj e5 e4
   simp [hlt]
theorem heap_push_old (o:Obj) {b:Nat} (hb:b < w.heap.size):(w.heap.push o)[b]? = w.heap[b]?:=by
 rw [Array.getElem?_push]
 split
 ·omega
 ·rfl
theorem heap_push_new (o:Obj):(w.heap.push o)[w.heap.size]? = some o:=by simp
theorem thaw0 (cs:Array Value):Thaw cs (0,0):=fun k _ hk=>by simp at hk
theorem setCells_heap {b:Nat}:∀ (vs:List Value) (o:Nat) {w:World} {cs:Array Value} {ty:TypeId} {fr:Nat × Nat},w.heap[b]? = some (.cells cs ty fr)→
  (w.setCells b o vs).heap[b]? = some (.cells (setL cs o vs) ty fr)∧(∀ b',b'≠b→(w.setCells b o vs).heap[b']? = w.heap[b']?)∧(w.setCells b o vs).heap.size=w.heap.size∧(w.setCells b o vs).os=w.os∧(w.setCells b o vs).tape=w.tape∧(w.setCells b o vs).output=w.output
 | [],o,w,cs,ty,fr,h=>⟨h,fun _ _=>rfl,rfl,rfl,rfl,rfl⟩
 | v :: vs,o,w,cs,ty,fr,h=>by
  have h1:(w.setCell ⟨b,o,none⟩ v).heap[b]? = some (.cells (cs.setIfInBounds o v) ty fr):=by
   simp [World.setCell,Array.getElem?_modify,h]
  obtain ⟨g1,g2,g3,g4,g5,g6⟩:=setCells_heap vs (o + 1) h1
  rw [World.setCells]
  refine ⟨g1,fun b' hb' => ?_,by rw [g3];simp [World.setCell],g4,g5,g6⟩
  rw [g2 b' hb']
  simp [World.setCell,Array.getElem?_modify,Ne.symm hb']
theorem there_of {b o n:Nat} {cs:Array Value} {ty:TypeId} {fr:Nat × Nat} (h:w.heap[b]? = some (.cells cs ty fr)) (ht:Thaw cs fr) (hn:o + n≤cs.size):w.there b o n:=by
 intro j hj
 refine ⟨by rw [cell_of_heap h];simp;omega,?_⟩
 have:=ht (o + j) (by omega)
 simp [World.frozen?,h]
 omega
end

theorem look_applyWr (r:Rid):∀ (wr:Wr) (h:Heap),look r (applyWr wr h)=match lastWr r wr with | some x=>x | none=>look r h
 | [],h=>rfl
 |(q,some x) :: wr,h=>by
  simp only [applyWr,lastWr]
  rw [look_applyWr r wr]
  cases lastWr r wr with
  | some y=>rfl
  | none=>
   simp only [look_put]
   split<;>rfl
 |(q,none) :: wr,h=>by
  simp only [applyWr,lastWr]
  rw [look_applyWr r wr]
  cases lastWr r wr with
  | some y=>rfl
  | none=>
   simp only [look_del]
   split<;>rfl
theorem lastWr_none {r:Rid}:∀ {wr:Wr},lastWr r wr=none↔r ∉ wr.map (·.1)
 | []=>by simp [lastWr]
 |(q,x) :: wr=>by
  simp only [lastWr,List.map_cons,List.mem_cons,not_or]
  cases h:lastWr r wr with
  | some y=>
   have h2:¬ r ∉ wr.map (·.1):=fun h3=>by
    have:=(lastWr_none (wr:=wr)).2 h3
    rw [h] at this
    cases this
   exact ⟨fun h3=>(by cases h3),fun h3=>absurd h3.2 h2⟩
  | none=>
   have:=lastWr_none.1 h
   simp [this]
theorem lastWr_append {r:Rid}:∀ {wr wr':Wr},lastWr r (wr++wr')=match lastWr r wr' with | some x=>some x | none=>lastWr r wr
 | [],wr'=>by
  simp only [List.nil_append,lastWr]
  cases lastWr r wr'<;>rfl
 |(q,x) :: wr,wr'=>by
  simp only [List.cons_append,lastWr]
  rw [lastWr_append]
  cases lastWr r wr'<;>rfl
theorem lastWr_gone {r:Rid}:∀ {rs:List Rid},lastWr r (gone rs)=if r ∈ rs then some none else none
 | []=>by simp [gone,lastWr]
 | q :: rs=>by
  have ih:=lastWr_gone (r:=r) (rs:=rs)
  unfold gone at ih
  simp only [gone,List.map_cons,lastWr,ih]
  by_cases h1:r ∈ rs
  ·simp [h1]
  ·simp only [h1,if_false,List.mem_cons,or_false]
theorem mem_gone {r:Rid} {rs:List Rid}:r ∈ (gone rs).map (·.1)↔r ∈ rs:=by simp [gone]
section
variable {X:Fix} {D:Nat→Prop} {s:St} {a:Act} {w w':World} {i:Nat} {dst:Option Tmp} {e:Eff} {v:Value} {ρ ρ':Rho} {Fr Fr':Rid→Nat→Prop}
theorem not_lab (hD:¬ D i) {k:Nat} (hk:k < 4096):¬ LabR D (rt i k):=fun h=>by
 obtain ⟨i',k',h1,h2,h3⟩:=h (isTemp_rt i k)
 obtain ⟨rfl,-⟩:=rt_inj hk h2 h1
 exact hD h3
theorem fresh_root (hl:Lab D s) (hD:¬ D i) {k:Nat} (hk:k < 4096):look (rt i k) s.h=none:=by
 cases h:look (rt i k) s.h with
 | none=>rfl
 | some x=>exact absurd (hl _ (.inr ⟨_,x,h, .inl rfl⟩)) (not_lab hD hk)
theorem lab_rt {k:Nat} (hk:k < 4096):LabR (fun j=>D j∨j=i) (rt i k):=fun _=>⟨i,k,rfl,hk, .inr rfl⟩
theorem Sim.write (hl:Lab D s) (hS:∀ b,X.S b→b < X.w0.heap.size∧∀ k,¬ X.Chg b k) (m:Mem X s.h ρ Fr w) (ht:Tmps X s.t s.h ρ w a)
  (hρ:∀ r,r ∉ e.wr.map (·.1)→ρ' r=ρ r∧Fr' r=Fr r)
  (hos:w'.os=w.os) (htape:w'.tape=w.tape) (hout:w'.output=w.output) (hsize:w.heap.size≤w'.heap.size)
  (keep:∀ b,b < w.heap.size→(∀ r x,r ∈ e.wr.map (·.1)→look r s.h=some x→¬ Fr r b)→w'.heap[b]? = w.heap[b]?)
  (chg:∀ b r x,r ∈ e.wr.map (·.1)→look r s.h=some x→Fr r b→b < X.w0.heap.size→ObjSame (X.Chg b) w.heap[b]? w'.heap[b]?)
  (aff:∀ r x,r ∈ e.wr.map (·.1)→look r (applyWr e.wr s.h)=some x→RootOK X w' (applyWr e.wr s.h) ρ' (Fr' r) (ρ' r) x)
  (foot:∀ r x b,r ∈ e.wr.map (·.1)→look r (applyWr e.wr s.h)=some x→Fr' r b→b < w'.heap.size∧(w.heap.size≤b∨∃ q y,q ∈ e.wr.map (·.1)∧look q s.h=some y∧Fr q b))
  (disj:∀ r x r' x' b,r ∈ e.wr.map (·.1)→r' ∈ e.wr.map (·.1)→look r (applyWr e.wr s.h)=some x→look r' (applyWr e.wr s.h)=some x'→Fr' r b→Fr' r' b→r=r')
  (hW:∀ q,q ∈ e.wr.map (·.1)→LabR D q→Compat w s.h ρ w' (applyWr e.wr s.h) ρ' q)
  (hd:∀ d,dst=some d→d < a.tmps.size) (hv:VR w' X.S (applyWr e.wr s.h) ρ' e.out v) (hro:∀ r ∈ rids e.out,LabR (fun j=>D j∨j=i) r)
  (hnew:∀ q x,q ∈ e.wr.map (·.1)→look q (applyWr e.wr s.h)=some x→LabR (fun j=>D j∨j=i) q∧∀ r ∈ ridsBox x,LabR (fun j=>D j∨j=i) r) :
  Sim X (fun j=>D j∨j=i) (s.apply dst e) (a.put dst v) w':=by
 have un:∀ r,r ∉ e.wr.map (·.1)→look r (applyWr e.wr s.h)=look r s.h:=fun r hr=>by
  rw [look_applyWr,lastWr_none.2 hr]
 obtain ⟨m',h1,h2⟩:=m.change (h':=applyWr e.wr s.h) (ρ':=ρ') (Fr':=Fr') (w':=w') (fun r=>r ∈ e.wr.map (·.1)) (LabR D) (fun b hb=>(hS b hb).1)
  (fun r hr=>⟨un r hr,hρ r hr⟩) hos htape hout hsize keep chg aff foot disj (fun r x q hx hq=>hl q (.inr ⟨r,x,hx, .inr hq⟩)) hW
 refine Sim.next hl hS ht m' h1 h2 hd hv (fun _ h => .inl h) hro (fun q x hq => ?_)
 by_cases hm:q ∈ e.wr.map (·.1)
 ·exact .inr (hnew q x hm hq)
 ·rw [un q hm] at hq
  exact .inl hq
theorem Sim.fresh (hD:¬ D i) (hl:Lab D s) (hS:∀ b,X.S b→b < X.w0.heap.size∧∀ k,¬ X.Chg b k) (m:Mem X s.h ρ Fr w) (ht:Tmps X s.t s.h ρ w a)
  {tk:List Rid} {x:Root} {bc:Option Nat × Nat} {F0:Nat→Prop} (he:e.wr=gone tk ++ [(rt i 0,some x)])
  (hos:w'.os=w.os) (htape:w'.tape=w.tape) (hout:w'.output=w.output) (hsize:w.heap.size≤w'.heap.size)
  (keep:∀ b,b < w.heap.size→(∀ r y,r ∈ tk→look r s.h=some y→¬ Fr r b)→w'.heap[b]? = w.heap[b]?)
  (chg:∀ b r y,r ∈ tk→look r s.h=some y→Fr r b→b < X.w0.heap.size→ObjSame (X.Chg b) w.heap[b]? w'.heap[b]?)
  (root:RootOK X w' (applyWr e.wr s.h) (fun r=>if r=rt i 0 then bc else ρ r) F0 bc x)
  (foot:∀ b,F0 b→b < w'.heap.size∧(w.heap.size≤b∨∃ q y,q ∈ tk∧look q s.h=some y∧Fr q b))
  (hd:∀ d,dst=some d→d < a.tmps.size) (hv:VR w' X.S (applyWr e.wr s.h) (fun r=>if r=rt i 0 then bc else ρ r) e.out v) (hro:∀ r ∈ rids e.out,LabR (fun j=>D j∨j=i) r)
  (hbox:∀ r ∈ ridsBox x,LabR (fun j=>D j∨j=i) r) :
  Sim X (fun j=>D j∨j=i) (s.apply dst e) (a.put dst v) w':=by
 have hmem:∀ r,r ∈ e.wr.map (·.1)↔r ∈ tk∨r=rt i 0:=fun r=>by
  rw [he,List.map_append,List.mem_append,mem_gone]
  simp
 have hlook:∀ r,look r (applyWr e.wr s.h)=if r=rt i 0 then some x else if r ∈ tk then none else look r s.h:=fun r=>by
  rw [look_applyWr,he,lastWr_append,lastWr_gone]
  simp only [lastWr]
  by_cases h1:r=rt i 0
  ·simp [h1]
  ·by_cases h2:r ∈ tk<;>simp [h1,h2]
 have h0:look (rt i 0) s.h=none:=fresh_root hl hD (by omega)
 have honly:∀ r y,r ∈ e.wr.map (·.1)→look r (applyWr e.wr s.h)=some y→r=rt i 0∧y=x:=fun r y hr hy=>by
  rw [hlook] at hy
  by_cases h1:r=rt i 0
  ·rw [if_pos h1] at hy
   injection hy with hy
   exact ⟨h1,hy.symm⟩
  ·rcases (hmem r).1 hr with h2 | h2
   ·simp [h1,h2] at hy
   ·exact absurd h2 h1
 refine Sim.write hl hS m ht (ρ':=fun r=>if r=rt i 0 then bc else ρ r) (Fr':=fun r=>if r=rt i 0 then F0 else Fr r) ?_ hos htape hout hsize ?_ ?_ ?_ ?_ ?_ ?_ hd hv hro ?_
 ·intro r hr
  have:r≠rt i 0:=fun e=>hr ((hmem r).2 (.inr e))
  simp [this]
 ·intro b hb hk
  exact keep b hb fun r y hr hy=>hk r y ((hmem r).2 (.inl hr)) hy
 ·intro b r y hr hy hf hlt
  rcases (hmem r).1 hr with h1 | h1
  ·exact chg b r y h1 hy hf hlt
  ·subst h1;rw [h0] at hy;cases hy
 ·intro r y hr hy
  obtain ⟨rfl,rfl⟩:=honly r y hr hy
  simp only [if_true]
  exact root
 ·intro r y b hr hy hb
  obtain ⟨rfl,rfl⟩:=honly r y hr hy
  simp only [if_true] at hb
  obtain ⟨h1,h2⟩:=foot b hb
  refine ⟨h1,h2.imp id ?_⟩
  rintro ⟨q,z,h3,h4⟩
  exact ⟨q,z,(hmem q).2 (.inl h3),h4⟩
 ·intro r y r' y' b hr hr' hy hy' _ _
  rw [(honly r y hr hy).1,(honly r' y' hr' hy').1]
 ·intro q hq hlq
  have h1:q≠rt i 0:=fun e=>not_lab hD (by omega) (e ▸ hlq)
  refine Compat.gone ?_
  rw [hlook,if_neg h1,if_pos (((hmem q).1 hq).resolve_right h1)]
 ·intro q y hq hy
  obtain ⟨rfl,rfl⟩:=honly q y hq hy
  exact ⟨lab_rt (by omega),hbox⟩
theorem VR.newrow {h':Heap} {S:Nat→Prop} {x:List (List AV)} {sz:Nat} {dt:List Nat} {g:Option Nat} {cap:Nat} {r:Rid} {nl:Option Bool} (hl:look r h'=some (.row sz x dt)) (hcap:x.length≤cap) (hg:x ≠ []→g≠none) (hc:g=none→cap=0)
  (hn:∀ b:Bool,nl=some b→g.isNone=b) (hρ:ρ' r=(g,cap)):VR w' S h' ρ' (.ref r none sz 0 x.length nl) (.slice (addrOf g) x.length cap):=by
 refine .up (.up (.ref (fun sz' ys hgr => ?_) (fun b hb => ?_) ⟨_,_,rfl,hcap,fun h=>hc (by cases g;rfl;cases h)⟩))
 ·simp only [getRow,hl,subRow,Option.some.injEq,Prod.mk.injEq] at hgr
  obtain ⟨rfl,rfl⟩:=hgr
  refine ⟨rfl,by omega,(g,cap),by simp [refAt,hl,placeAt,hρ],_,_,rfl,fun _=>⟨rfl,rfl⟩,fun h0 => ?_⟩
  cases g with
  | none=>exact absurd rfl (hg (fun e=>by subst e;simp at h0))
  | some g=>exact ⟨g,rfl,by simp [addrOf]⟩
 ·rw [←hn b hb]
  cases g<;>rfl
end

section
variable {P:Program} {w w':World} {S:Nat→Prop} {h:Heap} {ρ:Rho} {T:Types}
theorem zeros_rows {t:TypeId} {ti:TI} {i:TypeInfo} {d:TypeDesc} {z:Value} (hok:TIok P t ti i d z) (n:Nat) (w:World) :
  Rows w (fun _=>False) ti.size (List.replicate n (ti.zero.map toRow)) (fun _ j=>z.cells.getD j Go.undef):=by
 refine ⟨fun _ _ _=>False,fun _ _ _ hb=>hb,fun _ _ _ _ _ hb=>hb.elim,fun i c hi => ?_,fun i j c a hi hj => ?_⟩
 ·rw [List.getElem?_replicate] at hi
  split at hi
  ·injection hi with hi;subst hi;simp [hok.zlen]
  ·cases hi
 ·rw [List.getElem?_replicate] at hi
  split at hi
  ·injection hi with hi
   subst hi
   simp only [List.getElem?_map,Option.map_eq_some_iff] at hj
   obtain ⟨b,hb,rfl⟩:=hj
   have hlt:j < z.cells.size:=by rw [hok.zsize,←hok.zlen];exact lt_len hb
   have hz:z.cells[j]? = some (z.cells.getD j Go.undef):=by simp [hlt]
   exact (hok.zok j b _ hb hz).oc
  ·cases hi
theorem made_get {z:Array Value} {n m i j:Nat} (hz:z.size=m) (hi:i < n) (hj:j < m):(madeCells z (n * m))[i * m + j]? = some (z.getD j Go.undef):=by
 have hlt:i * m + j < n * m:=idx_lt hi hj (Nat.le_refl n) (Nat.le_refl _)
 subst hz
 obtain ⟨h1,h2⟩:=idx_div (i:=i) hj
 simp [madeCells,hlt,h2,hj]
theorem zero_rows_get {n m:Nat} {c0:List AV} {i j:Nat} {c:List AV} {a:AV} (hlen:c0.length=m) (hi:(List.replicate n c0)[i]? = some c) (hj:c[j]? = some a):i < n∧j < m:=by
 rw [List.getElem?_replicate] at hi
 split at hi
 ·injection hi with hi
  subst hi
  exact ⟨by assumption,by rw [←hlen];exact lt_len hj⟩
 ·cases hi
theorem bytes_rows (l:List UInt8) (w:World):Rows w (fun _=>False) 1 (listToBytes l) (fun i _ => .int .u8 (l.getD i 0).toNat):=by
 refine ⟨fun _ _ _=>False,fun _ _ _ hb=>hb,fun _ _ _ _ _ hb=>hb.elim,fun i c hi => ?_,fun i j c a hi hj => ?_⟩
 ·simp only [listToBytes,List.getElem?_map,Option.map_eq_some_iff] at hi
  obtain ⟨b,-,rfl⟩:=hi
  rfl
 ·simp only [listToBytes,List.getElem?_map,Option.map_eq_some_iff] at hi
  obtain ⟨b,hb,rfl⟩:=hi
  cases j with
  | zero=>
   simp at hj
   subst hj
   have:l.getD i 0=b:=by simp [List.getD,hb]
   show OC w _ _ (.int .u8 ((l.getD i 0).toNat:Int))
   rw [this]
   exact .int _ _
  | succ j=>simp at hj
def Own (h:Heap) (Fr:Rid→Nat→Prop) (rs:List Rid) (b:Nat):Prop:=∃ q y,q ∈ rs∧look q h=some y∧Fr q b
theorem memR_iff {r:Rid}:∀ {rs:List Rid},memR r rs=true↔r ∈ rs
 | []=>by simp [memR]
 | q :: qs=>by
  simp only [memR,List.mem_cons]
  split
  ·rename_i e;simp [e]
  ·rename_i e;simp [e,memR_iff (rs:=qs)]
theorem nodupR_iff:∀ {rs:List Rid},nodupR rs=true↔rs.Nodup
 | []=>by simp [nodupR]
 | q :: qs=>by
  simp only [nodupR,Bool.and_eq_true,List.nodup_cons,nodupR_iff (rs:=qs)]
  rw [←memR_iff]
  simp
theorem Own.disj {X:Fix} {Fr:Rid→Nat→Prop} (m:Mem X h ρ Fr w) {rs qs:List Rid} (hd:∀ r ∈ rs,r ∉ qs) {b:Nat} (h1:Own h Fr rs b) (h2:Own h Fr qs b):False:=by
 obtain ⟨q,y,a1,a2,a3⟩:=h1
 obtain ⟨q',y',b1,b2,b3⟩:=h2
 exact hd q a1 (m.disj q y q' y' b a2 b2 a3 b3 ▸ b1)
def Free (X:Fix) (b:Nat):Prop:=X.w0.heap.size≤b∨∀ k,X.Chg b k
theorem whole_root {X:Fix} {Fr:Rid→Nat→Prop} (m:Mem X h ρ Fr w) {r:Rid} {sz n:Nat} {nl:Option Bool} {xs:List (List AV)} {dt:List Nat} {v:Value} (hv:VR w X.S h ρ (.ref r none sz 0 n nl) v) (hl:look r h=some (.row sz xs dt)) :
  (∃ F:Nat→Prop,(∀ b,F b→Fr r b∧Free X b)∧((xs = []∧ρ r=(none,0))∨∃ g,(ρ r).1=some g∧OC w F (.row sz xs) (.slice (some ⟨g,0,none⟩) xs.length (ρ r).2)))∧v = .slice (addrOf (ρ r).1) n (ρ r).2∧n≤xs.length∧n≤(ρ r).2:=by
 have hv:=hv.ref_inv
 cases hv with
 | fv hf=>cases hf
 | ref h1 h2 h3=>
  obtain ⟨-,g2,bc,g3,A,cap,e1,e2,e3⟩:=h1 sz xs (by simp [getRow,hl,subRow])
  simp only [refAt,hl,placeAt] at g3
  subst g3
  obtain ⟨rfl,rfl⟩:=e2 rfl
  obtain ⟨A',c',e4,e5,-⟩:=h3
  rw [e1] at e4
  injection e4 with _ _ e6
  refine ⟨?_,e1,by omega,by omega⟩
  rcases m.root r _ hl with ⟨g,k1,k2,k3⟩ | ⟨k1,k2⟩
  ·exact ⟨Fr r,fun b hb=>⟨hb,k3 b hb⟩, .inr ⟨g,k1,k2⟩⟩
  ·exact ⟨fun _=>False,fun b hb=>hb.elim, .inl ⟨k2,k1⟩⟩
theorem OC.cut {w:World} {F:Nat→Prop} {sz n cap:Nat} {xs:List (List AV)} {g:Nat} (h:OC w F (.row sz xs) (.slice (some ⟨g,0,none⟩) xs.length cap)) (hn:n≤xs.length):OC w F (.row sz (xs.take n)) (.slice (some ⟨g,0,none⟩) n cap):=by
 generalize hl:xs.length=len at h
 cases h with
 | row Fs hh ht hcap hlen hg hsub hdis hsz hc=>
  have hk:∀ {i:Nat} {c:List AV},(xs.take n)[i]? = some c→xs[i]? = some c:=fun {i c} he=>by
   rw [List.getElem?_take] at he
   split at he
   ·exact he
   ·cases he
  have key:=OC.row (w:=w) (F:=F) (sz:=sz) (xs:=xs.take n) (g:=g) (cap:=cap) Fs hh ht hcap (by rw [List.length_take];omega) hg hsub hdis (fun i c he=>hsz i c (hk he)) (fun i j c a v he=>hc i j c a v (hk he))
  rwa [List.length_take,Nat.min_eq_left hn] at key
theorem intake_sound {X:Fix} {Fr:Rid→Nat→Prop} (m:Mem X h ρ Fr w) {a b:AV} {v:Value} {rs:List Rid} (hv:VR w X.S h ρ a v) (hi:intake h a=some (b,rs)) :
  (∃ F:Nat→Prop,(∀ blk,F blk→Own h Fr rs blk∧Free X blk)∧OC w F b v)∧(∀ q ∈ rs,q ∈ rids a)∧(∀ q ∈ rs,∃ y,look q h=some y)∧v.cells = #[v]:=by
 unfold intake at hi
 split at hi
 ·simp only [Option.some.injEq,Prod.mk.injEq] at hi
  obtain ⟨rfl,rfl⟩:=hi
  have:=nil_frz_inv hv
  subst this
  exact ⟨⟨fun _=>False,fun _ hb=>hb.elim, .nil _⟩,by simp,by simp,rfl⟩
 ·rename_i r sz n nl
  split at hi
  ·rename_i sz' xs dt hl
   split at hi
   ·rename_i hc
    obtain ⟨rfl,rfl⟩:=hc
    simp only [Option.some.injEq,Prod.mk.injEq] at hi
    obtain ⟨rfl,rfl⟩:=hi
    obtain ⟨⟨F,f1,f2⟩,rfl,-,-⟩:=whole_root m hv hl
    refine ⟨⟨F,fun blk hb=>⟨⟨r,_,by simp,hl,(f1 blk hb).1⟩,(f1 blk hb).2⟩,?_⟩,by simp [rids,rid2,rid1],by simp [hl],rfl⟩
    rcases f2 with ⟨h1,h2⟩ | ⟨g,h1,h2⟩
    ·subst h1
     rw [h2]
     exact .nil _
    ·rw [h1]
     exact h2
   ·split at hi
    ·rename_i hc
     obtain ⟨hc1,rfl⟩:=hc
     simp only [Option.some.injEq,Prod.mk.injEq] at hi
     obtain ⟨rfl,rfl⟩:=hi
     obtain ⟨⟨F,f1,f2⟩,rfl,-,hcap⟩:=whole_root m hv hl
     refine ⟨⟨F,fun blk hb=>⟨⟨r,_,by simp,hl,(f1 blk hb).1⟩,(f1 blk hb).2⟩,?_⟩,by simp [rids,rid2,rid1],by simp [hl],rfl⟩
     rcases f2 with ⟨h1,h2⟩ | ⟨g,h1,h2⟩
     ·subst h1
      have hn0:n=0:=by simpa using hc1
      subst hn0
      rw [h2]
      exact .nil _
     ·rw [h1]
      exact h2.cut hc1
    ·cases hi
  ·cases hi
 ·simp only [Option.some.injEq,Prod.mk.injEq] at hi
  obtain ⟨rfl,rfl⟩:=hi
  have:=hv.int_inv
  subst this
  exact ⟨⟨fun _=>False,fun _ hb=>hb.elim, .int _ _⟩,by simp,by simp,rfl⟩
 ·simp only [Option.some.injEq,Prod.mk.injEq] at hi
  obtain ⟨rfl,rfl⟩:=hi
  have:=hv.bool_inv
  subst this
  exact ⟨⟨fun _=>False,fun _ hb=>hb.elim, .bool _⟩,by simp,by simp,rfl⟩
 ·simp only [Option.some.injEq,Prod.mk.injEq] at hi
  obtain ⟨rfl,rfl⟩:=hi
  obtain ⟨s,rfl,hs⟩:=hv.str_inv
  exact ⟨⟨fun _=>False,fun _ hb=>hb.elim, .str hs⟩,by simp,by simp,rfl⟩
 ·cases hi
theorem intakes_sound {X:Fix} {Fr:Rid→Nat→Prop} (m:Mem X h ρ Fr w):∀ {as bs:List AV} {rs:List Rid} {vs:List Value},intakes h as=some (bs,rs)→rs.Nodup→as.length=vs.length→
  (∀ (k:Nat) (a:AV) (v:Value),as[k]? = some a→vs[k]? = some v→VR w X.S h ρ a v)→
  ∃ G:Nat→Nat→Prop,(∀ k b,G k b→Own h Fr rs b∧Free X b)∧(∀ k k' b,G k b→G k' b→k=k')∧bs.length=as.length∧(∀ (k:Nat) (b:AV) (v:Value),bs[k]? = some b→vs[k]? = some v→OC w (G k) b v)∧
   (∀ q ∈ rs,∃ a ∈ as,q ∈ rids a)
 | [],bs,rs,vs,hi,_,_,_=>by
  simp only [intakes,Option.some.injEq,Prod.mk.injEq] at hi
  obtain ⟨rfl,rfl⟩:=hi
  exact ⟨fun _ _=>False,fun _ _ hb=>hb.elim,fun _ _ _ hb=>hb.elim,rfl,by simp,by simp⟩
 | a :: as,bs,rs,vs,hi,hn,hl,hv=>by
  cases vs with
  | nil=>simp at hl
  | cons v vs=>
   simp only [intakes] at hi
   split at hi
   ·rename_i b q bs' rs' h1 h2
    simp only [Option.some.injEq,Prod.mk.injEq] at hi
    obtain ⟨rfl,rfl⟩:=hi
    obtain ⟨hn1,hn2,hn3⟩:=List.nodup_append.1 hn
    obtain ⟨⟨F,f1,f2⟩,f3,f4,-⟩:=intake_sound m (hv 0 a v rfl rfl) h1
    obtain ⟨G,g1,g2,g3,g4,g5⟩:=intakes_sound m h2 hn2 (by simpa using hl) (fun k a v h3 h4=>hv (k + 1) a v (by simpa using h3) (by simpa using h4))
    have hdj:∀ b,Own h Fr q b→Own h Fr rs' b→False:=fun b h3 h4=>Own.disj m (fun r hr hr'=>hn3 r hr r hr' rfl) h3 h4
    refine ⟨fun k b=>match k with | 0=>F b | k + 1=>G k b,?_,?_,by simp [g3],?_,?_⟩
    ·intro k b hb
     cases k with
     | zero=>
      obtain ⟨⟨r,y,e1,e2⟩,e3⟩:=f1 b hb
      exact ⟨⟨r,y,by simp [e1],e2⟩,e3⟩
     | succ k=>
      obtain ⟨⟨r,y,e1,e2⟩,e3⟩:=g1 k b hb
      exact ⟨⟨r,y,by simp [e1],e2⟩,e3⟩
    ·intro k k' b hb hb'
     cases k with
     | zero=>cases k' with
      | zero=>rfl
      | succ k'=>exact (hdj b (f1 b hb).1 (g1 k' b hb').1).elim
     | succ k=>cases k' with
      | zero=>exact (hdj b (f1 b hb').1 (g1 k b hb).1).elim
      | succ k'=>rw [g2 k k' b hb hb']
    ·intro k b u h3 h4
     cases k with
     | zero=>simp at h3 h4;subst h3 h4;exact f2
     | succ k=>exact g4 k b u (by simpa using h3) (by simpa using h4)
    ·intro r hr
     rcases List.mem_append.1 hr with h3 | h3
     ·exact ⟨a,by simp,f3 r h3⟩
     ·obtain ⟨c,h4,h5⟩:=g5 r h3
      exact ⟨c,by simp [h4],h5⟩
   ·cases hi
theorem Rows.set {F:Nat→Prop} {sz:Nat} {xs:List (List AV)} {f:Nat→Nat→Value} (hr:Rows w F sz xs f) {i:Nat} {c:List AV} {G:Nat→Nat→Prop} {g:Nat→Value} {G':Nat→Prop} (hc:c.length=sz)
  (hG:∀ k b,G k b→G' b∧¬ F b) (hd:∀ k k' b,G k b→G k' b→k=k') (ho:∀ (k:Nat) (a:AV),c[k]? = some a→OC w (G k) a (g k)) :
  Rows w (fun b=>F b∨G' b) sz (xs.set i c) (fun i' j=>if i'=i then g j else f i' j):=by
 obtain ⟨Fs,h1,h2,h3,h4⟩:=hr
 refine ⟨fun i' j b=>(i'=i∧G j b)∨(i'≠i∧Fs i' j b),?_,?_,?_,?_⟩
 ·rintro i' j b (⟨-,hb⟩ | ⟨-,hb⟩)
  ·exact .inr (hG j b hb).1
  ·exact .inl (h1 _ _ _ hb)
 ·rintro i1 j1 i2 j2 b (⟨a1,hb⟩ | ⟨a1,hb⟩) (⟨a2,hb'⟩ | ⟨a2,hb'⟩)
  ·exact ⟨by rw [a1,a2],hd _ _ _ hb hb'⟩
  ·exact absurd (h1 _ _ _ hb') (hG _ _ hb).2
  ·exact absurd (h1 _ _ _ hb) (hG _ _ hb').2
  ·exact h2 _ _ _ _ b hb hb'
 ·intro k c' hk
  rw [List.getElem?_set] at hk
  split at hk
  ·split at hk
   ·injection hk with hk;rw [←hk];exact hc
   ·cases hk
  ·exact h3 k c' hk
 ·intro k j c' a hk hj
  rw [List.getElem?_set] at hk
  split at hk
  ·rename_i e
   subst e
   split at hk
   ·injection hk with hk
    subst hk
    show OC w _ a (if i=i then g j else f i j)
    rw [if_pos rfl]
    exact (ho j a hj).mono fun b hb => .inl ⟨rfl,hb⟩
   ·cases hk
  ·rename_i e
   show OC w _ a (if k=i then g j else f k j)
   rw [if_neg (Ne.symm e)]
   exact (h4 k j c' a hk hj).mono fun b hb => .inr ⟨Ne.symm e,hb⟩
end

section
variable {X:Fix} {D:Nat→Prop} {s:St} {a:Act} {w w':World} {i:Nat} {o:Oper} {T:Types}
abbrev Done (X:Fix) (D:Nat→Prop) (s:St) (a:Act) (w:World) (i:Nat) (o:Oper) (e:Eff):Prop:=
 EndsOp X o a w fun v w'=>Sim X (fun j=>D j∨j=i) (s.apply o.dst e) (a.put o.dst v) w'
theorem ObjSame.free {X:Fix} {b:Nat} (hb:b < X.w0.heap.size) (hf:Free X b) {c c':Array Value} {ty:TypeId} {fr:Nat × Nat} (hs:c'.size=c.size):ObjSame (X.Chg b) (some (.cells c ty fr)) (some (.cells c' ty fr)):=by
 rcases hf with h | h
 ·omega
 ·exact .inr ⟨c,c',ty,fr,rfl,rfl,hs,fun k hk=>absurd (h k) hk⟩
theorem Sim.newbox (hs:Sim X D s a w) (hD:¬ D i) (hd:∀ d,o.dst=some d→d < a.tmps.size) {cs:List AV} {vs:Array Value} {e:TypeId} {rd:List Rid}
  (hrun:(execOp a.eval o).run X.P w = .ok (.value (.pointer (some ⟨w.heap.size,0,none⟩))) (w.alloc (.cells vs e))) (hn:cs.length≤vs.size)
  (hc:∀ ρ Fr,Mem X s.h ρ Fr w→Tmps X s.t s.h ρ w a→∀ (k:Nat) (x:AV),cs[k]? = some x→∃ v,vs[k]? = some v∧VB w X.S s.h ρ x v)
  (hr:∀ c ∈ cs,∀ r ∈ rid2 c,Men s r) :
  Done X D s a w i o { out := .ptr (rt i 0) none 0 0,wr := [(rt i 0,some (.box cs))],rd:=rd }:=by
 obtain ⟨hl,hS,ρ,Fr,m,ht⟩:=hs
 have h0:=fresh_root (i:=i) (k:=0) hl hD (by omega)
 have hheap:(w.alloc (.cells vs e)).heap=w.heap.push (.cells vs e):=rfl
 have hlook:∀ r,look r (applyWr [(rt i 0,some (.box cs))] s.h)=if r=rt i 0 then some (.box cs) else look r s.h:=fun r=>by
  simp only [applyWr,look_put]
 refine ⟨_,_,_,hrun, .inl rfl,?_⟩
 refine Sim.fresh hD hl hS m ht (tk := []) (x := .box cs) (bc:=(some w.heap.size,0)) (F0:=fun b=>b=w.heap.size) (by simp [gone]) rfl rfl rfl (by rw [hheap];simp) ?_ ?_ ?_ ?_ hd ?_ ?_ ?_
 ·intro b hb _
  rw [hheap]
  exact heap_push_old _ hb
 ·intro b r y hr;simp at hr
 ·refine ⟨w.heap.size,vs,e,(0,0),rfl,?_,thaw0 _,by simpa using hn,rfl,fun b hb=>hb,fun k hk => .inl m.size,fun k x hk => ?_⟩
  ·rw [hheap];exact heap_push_new _
  ·obtain ⟨v,h1,h2⟩:=hc ρ Fr m ht k x hk
   refine ⟨v,by simpa using h1,h2.upd (fun b hb hlt=>by rw [hheap];exact heap_push_old _ hlt) (fun r hr' => ?_)⟩
   have hne:r≠rt i 0:=fun e=>not_lab hD (by omega) (e ▸ hl r (hr x (List.mem_of_getElem? hk) r hr'))
   refine Compat.still (by rw [hlook,if_neg hne]) (by simp [hne]) (fun g hg hsome => ?_)
   obtain ⟨y,hy⟩:=Option.isSome_iff_exists.1 hsome
   rw [hheap]
   exact heap_push_old _ (m.foot r y g hy (m.block hy hg)).1
 ·intro b hb
  subst hb
  rw [hheap]
  simp
 ·refine .up (.up (.ptr (fun c hg => ?_) ⟨_,rfl⟩))
  refine ⟨w.heap.size,0,?_,rfl⟩
  unfold ptrAt
  rw [hlook,if_pos rfl]
  simp
 ·intro r hr'
  simp [rids,rid2,rid1] at hr'
  subst hr'
  exact lab_rt (by omega)
 ·intro r hr'
  simp only [ridsBox,List.mem_flatMap] at hr'
  obtain ⟨c,h1,h2⟩:=hr'
  exact (hl r (hr c h1 r h2)).mono fun _ h => .inl h
theorem Sim.newrow (hs:Sim X D s a w) (hD:¬ D i) (hd:∀ d,o.dst=some d→d < a.tmps.size) {xs:List (List AV)} {sz:Nat} {e:Eff} {tk:List Rid} {nl:Option Bool}
  (he:e.wr=gone tk ++ [(rt i 0,some (.row sz xs []))]) (heo:e.out = .ref (rt i 0) none sz 0 xs.length nl) (hnl:∀ b,nl=some b→b=false)
  (hx:∀ ρ Fr,Mem X s.h ρ Fr w→Tmps X s.t s.h ρ w a→∃ (w':World) (vs:Array Value) (ty:TypeId) (fr:Nat × Nat) (cap:Nat) (f:Nat→Nat→Value) (F:Nat→Prop),
   (execOp a.eval o).run X.P w = .ok (.value (.slice (some ⟨w.heap.size,0,none⟩) xs.length cap)) w'∧w'.os=w.os∧w'.tape=w.tape∧w'.output=w.output∧w'.heap.size=w.heap.size + 1∧
   (∀ b,b < w.heap.size→w'.heap[b]? = w.heap[b]?)∧w'.heap[w.heap.size]? = some (.cells vs ty fr)∧Thaw vs fr∧cap * sz≤vs.size∧xs.length≤cap∧Rows w F sz xs f∧(∀ b,F b→Own s.h Fr tk b∧Free X b)∧
   (∀ (i j:Nat) (c:List AV) (a:AV),xs[i]? = some c→c[j]? = some a→vs[i * sz + j]? = some (f i j))):Done X D s a w i o e:=by
 obtain ⟨hl,hS,ρ,Fr,m,ht⟩:=hs
 obtain ⟨w',vs,ty,fr,cap,f,F,hrun,hos,htape,hout,hsz,hold,hnew,hth,hcap,hlen,hrows,hF,hvs⟩:=hx ρ Fr m ht
 have hlt:∀ b,F b→b < w.heap.size:=fun b hb=>by
  obtain ⟨⟨q,y,h1,h2,h3⟩,-⟩:=hF b hb
  exact (m.foot q y b h2 h3).1
 have hlook:look (rt i 0) (applyWr e.wr s.h)=some (.row sz xs []):=by
  rw [look_applyWr,he,lastWr_append]
  simp [lastWr]
 refine ⟨_,_,_,hrun, .inl rfl,?_⟩
 refine Sim.fresh hD hl hS m ht (tk:=tk) (x := .row sz xs []) (bc:=(some w.heap.size,cap)) (F0:=fun b=>b=w.heap.size∨F b) he hos htape hout (by omega) ?_ ?_ ?_ ?_ hd ?_ ?_ ?_
 ·exact fun b hb _=>hold b hb
 ·exact fun b r y _ hy hf hb => .inl (hold b (m.foot r y b hy hf).1)
 ·refine .inl ⟨w.heap.size,rfl,?_,?_⟩
  ·exact (hrows.move (w':=w') fun b hb=>hold b (hlt b hb)).row hnew hth hcap hlen (fun hb=>by have:=hlt _ hb;omega) hvs
  ·rintro b (rfl | hb)
   ·exact .inl m.size
   ·exact (hF b hb).2
 ·rintro b (rfl | hb)
  ·exact ⟨by omega, .inl (Nat.le_refl _)⟩
  ·exact ⟨by have:=hlt b hb;omega, .inr (hF b hb).1⟩
 ·rw [heo]
  exact VR.newrow (g:=some w.heap.size) hlook hlen (by simp) (by simp) (fun b hb=>by rw [hnl b hb];rfl) (by simp)
 ·intro r hr
  rw [heo] at hr
  simp [rids,rid2,rid1] at hr
  subst hr
  exact lab_rt (by omega)
 ·simp [ridsBox]
theorem alloc_done (hT:TOk X.P T) (hs:Sim X D s a w) (hD:¬ D i) (hd:∀ d,o.dst=some d→d < a.tmps.size) {t:TypeId} {e:Eff} (ho:o.op = .alloc t) (he:aop T s i o=some e):e.ok→Done X D s a w i o e:=by
 intro _
 simp only [aop,ho] at he
 split at he
 ·rename_i te hte
  injection he with he
  subst he
  obtain ⟨ii,dd,zz,hok⟩:=hT _ _ hte
  refine Sim.newbox hs hD hd (vs:=zz.cells) (e:=t) ?_ (by rw [hok.zsize,hok.zlen];omega) (fun ρ Fr m ht k x hk => ?_) (fun c hc r hr => ?_)
  ·simp only [execOp,ho,Instr.alloc,Sem.run_bind,hok.run_zero,Result.andThen_ok,newVar,newRow]
   rfl
  ·have hlt:k < zz.cells.size:=by rw [hok.zsize,←hok.zlen];exact lt_len hk
   exact ⟨zz.cells[k],by simp [hlt], .up (.fv (hok.zok k x _ hk (by simp [hlt])).fv)⟩
  ·obtain ⟨k,hk⟩:=List.mem_iff_getElem?.1 hc
   have hlt:k < zz.cells.size:=by rw [hok.zsize,←hok.zlen];exact lt_len hk
   have:=(hok.zok k c _ hk (Array.getElem?_eq_getElem hlt)).fv (w:=w) (S:=X.S)
   rw [this.norid.2.1] at hr
   cases hr
 ·cases he
theorem box_done (hT:TOk X.P T) (hs:Sim X D s a w) (hD:¬ D i) (hd:∀ d,o.dst=some d→d < a.tmps.size) {t:TypeId} {x:Operand} {e:Eff} (ho:o.op = .box t x) (he:aop T s i o=some e):e.ok→Done X D s a w i o e:=by
 intro _
 simp only [aop,ho] at he
 split at he
 ·rename_i te v hte hv
  split at he
  ·rename_i hc
   injection he with he
   subst he
   obtain ⟨ii,dd,zz,hok⟩:=hT _ _ hte
   refine Sim.newbox hs hD hd (vs:=(a.eval x).cells) (e:=t) ?_ ?_ (fun ρ Fr m ht k y hk => ?_) (fun c hc' r hr => ?_)
   ·simp only [execOp,ho,Instr.box,Sem.run_bind,newVar,newRow]
    rfl
   ·obtain ⟨-,-,ρ,Fr,m,ht⟩:=hs
    rw [((ev_sound ht hv).cells hc.2).1]
    omega
   ·have h1:=(ev_sound ht hv).cells hc.2
    have hlt:k < (a.eval x).cells.size:=by rw [h1.1];exact lt_len hk
    exact ⟨_,Array.getElem?_eq_getElem hlt,(h1.2 k y _ hk (Array.getElem?_eq_getElem hlt)).1⟩
   ·obtain ⟨-,-,ρ,Fr,m,ht⟩:=hs
    have h1:=(ev_sound ht hv).cells hc.2
    obtain ⟨k,hk⟩:=List.mem_iff_getElem?.1 hc'
    have hlt:k < (a.eval x).cells.size:=by rw [h1.1];exact lt_len hk
    have h2:=(h1.2 k c _ hk (Array.getElem?_eq_getElem hlt)).1
    refine ev_men hv r ?_
    by_cases hagg:∃ cs,v = .agg cs
    ·obtain ⟨cs,rfl⟩:=hagg
     have h3:storable c=true:=List.all_eq_true.1 hc.2 c hc'
     obtain ⟨vs,e1,e2,e3⟩:=(ev_sound ht hv).agg_inv
     have hlt':k < vs.size:=by rw [e2];exact lt_len hk
     have h4:=(e3 k c _ hk (Array.getElem?_eq_getElem hlt')).rids_eq.2
     simp only [rids,rid2,List.mem_flatMap]
     exact ⟨c,hc',h4 ▸ hr⟩
    ·have hc1:cellsOf v = [v]:=by
      cases v<;>first | rfl | exact absurd ⟨_,rfl⟩ hagg
     rw [hc1] at hc'
     simp at hc'
     subst hc'
     rw [h2.rids_eq]
     exact hr
  ·cases he
 ·cases he
theorem makeSlice_done (hT:TOk X.P T) (hs:Sim X D s a w) (hD:¬ D i) (hd:∀ d,o.dst=some d→d < a.tmps.size) {t:TypeId} {l c:Operand} {e:Eff} (ho:o.op = .makeSlice t l c) (he:aop T s i o=some e):e.ok→Done X D s a w i o e:=by
 intro _
 simp only [aop,ho] at he
 split at he
 ·rename_i el _ _ kl n kc n' hti hl hc
  split at he
  ·rename_i te hte
   split at he
   ·rename_i hb
    obtain ⟨b1,rfl,b2⟩:=hb
    injection he with he
    subst he
    obtain ⟨ii,dd,zz,hok⟩:=hT _ _ hti
    have hk:=hok.kok
    have hu:=hok.und
    cases dd<;>simp only [KOK] at hk
    rename_i el2
    subst hk
    obtain ⟨ie,de,ze,hoke⟩:=hT _ _ hte
    refine Sim.newrow hs hD hd (tk := []) (sz:=te.size) (xs:=List.replicate n.toNat (te.zero.map toRow)) (nl:=some false) (by simp [gone]) (by simp) (by simp) (fun ρ Fr m ht => ?_)
    have e1:=(ev_sound ht hl).int_inv
    have e2:=(ev_sound ht hc).int_inv
    have hL:LIM=1073741824:=rfl
    have hby:(ie.bytes:Int) * n≤281474976710656:=by
     have h1:ie.bytes * n.toNat≤65536 * 1073741824:=Nat.mul_le_mul hoke.bytes (by omega)
     have h2:((ie.bytes * n.toNat:Nat):Int)=(ie.bytes:Int) * n:=by
      rw [Int.natCast_mul,Int.toNat_of_nonneg b1]
     omega
    refine ⟨w.alloc (.cells (madeCells ze.cells (n.toNat * ie.size)) el2),madeCells ze.cells (n.toNat * ie.size),el2,(0,0),n.toNat,fun _ j=>ze.cells.getD j Go.undef,fun _=>False,?_,rfl,rfl,rfl,?_,?_,heap_push_new _,thaw0 _,?_,by simp,zeros_rows hoke n.toNat w,fun b hb=>hb.elim,?_⟩
    ·simp only [execOp,ho,e1,e2,Sem.run_bind,run_make w t el2 ie ze hu hoke.info hoke.zero kl kc n n b1 (Int.le_refl _) hby (by omega),Result.andThen_ok,Sem.run_pure,List.length_replicate]
    ·simp [World.alloc,-World.alloc_eq]
    ·exact fun b hb=>heap_push_old _ hb
    ·simp [size_madeCells,hoke.size]
    ·intro i' j c' x hi hj
     obtain ⟨q1,q2⟩:=zero_rows_get (m:=te.size) (by simp [hoke.zlen]) hi hj
     have:=made_get (z:=ze.cells) (n:=n.toNat) (m:=te.size) hoke.zsize q1 q2
     rw [hoke.size]
     exact this
   ·cases he
  ·cases he
 ·cases he
theorem fillSlice_sound {P:Program} {h:Heap} {ρ:Rho} {Fr:Rid→Nat→Prop} (m:Mem X h ρ Fr w) {n:Nat}:∀ {ps:List (Nat × AV)} {us:List (Nat × Value)} {xs ys:List (List AV)} {rs done:List Rid} {vs:Array Value} {f:Nat→Nat→Value} {F:Nat→Prop},
  fillSlice h n xs ps=some (ys,rs)→us.length=ps.length→(∀ (k i:Nat) (a:AV),ps[k]? = some (i,a)→∃ u,us[k]? = some (i,u)∧VR w X.S h ρ a u)→(done++rs).Nodup→
  vs.size=xs.length * n→Rows w F n xs f→(∀ b,F b→Own h Fr done b∧Free X b)→(∀ i j,i < xs.length→j < n→vs[i * n + j]? = some (f i j))→
  ∃ (vs':Array Value) (f':Nat→Nat→Value) (F':Nat→Prop),Instr.fill (fun i=>some (i * n,n)) vs us=some vs'∧vs'.size=ys.length * n∧ys.length=xs.length∧Rows w F' n ys f'∧(∀ b,F' b→Own h Fr (done++rs) b∧Free X b)∧
   (∀ i j,i < ys.length→j < n→vs'[i * n + j]? = some (f' i j))
 | [],us,xs,ys,rs,done,vs,f,F,hf,hl,hu,hn,hsz,hr,hF,hv=>by
  simp only [fillSlice,Option.some.injEq,Prod.mk.injEq] at hf
  obtain ⟨rfl,rfl⟩:=hf
  have:us = []:=List.eq_nil_of_length_eq_zero hl
  subst this
  exact ⟨vs,f,F,rfl,hsz,rfl,hr,by simpa using hF,hv⟩
 |(i,a) :: ps,us,xs,ys,rs,done,vs,f,F,hf,hl,hu,hn,hsz,hr,hF,hv=>by
  obtain ⟨u,h1,h2⟩:=hu 0 i a rfl
  cases us with
  | nil=>simp at h1
  | cons u0 us=>
   simp at h1
   subst h1
   simp only [fillSlice] at hf
   split at hf
   ·rename_i cs q hin
    split at hf
    ·rename_i hc
     obtain ⟨c1,c2⟩:=hc
     split at hf
     ·rename_i ys' rs' hfs
      simp only [Option.some.injEq,Prod.mk.injEq] at hf
      obtain ⟨rfl,rfl⟩:=hf
      have hn':((done++q)++rs').Nodup:=by rw [List.append_assoc];exact hn
      have hq:q.Nodup:=(List.nodup_append.1 (List.nodup_append.1 hn').1).2.1
      have hdq:∀ r ∈ done,r ∉ q:=fun r hr hr'=>(List.nodup_append.1 (List.nodup_append.1 hn').1).2.2 r hr r hr' rfl
      -- the parts of the value
      have hcells:(cellsOf a).length=u.cells.toList.length∧∀ (k:Nat) (x:AV) (v:Value),(cellsOf a)[k]? = some x→u.cells.toList[k]? = some v→VR w X.S h ρ x v:=by
       by_cases hagg:∃ cs',a = .agg cs'
       ·obtain ⟨cs',rfl⟩:=hagg
        obtain ⟨us',rfl,g1,g2⟩:=h2.agg_inv
        refine ⟨by simp [cellsOf,Value.cells,g1],fun k x v a1 a2 => .up (.up (g2 k x v a1 (by simpa [Value.cells] using a2)))⟩
       ·have hc1:cellsOf a = [a]:=by
         cases a<;>first | rfl | exact absurd ⟨_,rfl⟩ hagg
        rw [hc1] at hin
        have hone:u.cells = #[u]:=by
         simp only [intakes] at hin
         split at hin
         ·rename_i b q' _ _ hi1 _
          exact (intake_sound m h2 hi1).2.2.2
         ·cases hin
        rw [hc1,hone]
        refine ⟨rfl,fun k x v a1 a2 => ?_⟩
        cases k with
        | zero=>simp at a1 a2;subst a1 a2;exact h2
        | succ k=>simp at a1
      obtain ⟨G,g1,g2,g3,g4,-⟩:=intakes_sound m (vs:=u.cells.toList) hin hq hcells.1 hcells.2
      have hus:u.cells.size=n:=by rw [←c1,g3,hcells.1];simp
      have hle:i * n + u.cells.toList.length≤vs.size:=by
       have:(i + 1) * n≤xs.length * n:=Nat.mul_le_mul_right _ c2
       rw [Nat.add_mul] at this
       simp [hus,hsz]
       omega
      obtain ⟨s1,s2⟩:=setL_get u.cells.toList vs (i * n)
      have hlen:(xs.set i cs).length=xs.length:=by simp
      have hrows:=hr.set (i:=i) (c:=cs) (G:=G) (g:=fun j=>u.cells.getD j Go.undef) (G':=fun b=>Own h Fr q b∧Free X b) c1
       (fun k b hb=>⟨g1 k b hb,fun hFb=>Own.disj m hdq (hF b hFb).1 (g1 k b hb).1⟩) g2 (fun k x hk=>by
        have hlt:k < u.cells.size:=by rw [hus,←c1];exact lt_len hk
        exact g4 k x _ hk (by simp [hlt]))
      obtain ⟨vs',f',F',k1,k2,k3,k4,k5,k6⟩:=fillSlice_sound (P:=P) m (us:=us) (done:=done++q) (vs:=setL vs (i * n) u.cells.toList) hfs (by simpa using hl) (fun k i a hk=>by
        obtain ⟨u',q1,q2⟩:=hu (k + 1) i a (by simpa using hk)
        exact ⟨u',by simpa using q1,q2⟩) hn' (by rw [s1,hlen,hsz]) hrows (fun b hb=>by
        rcases hb with hb | ⟨hb1,hb2⟩
        ·obtain ⟨⟨r,y,e1,e2⟩,e3⟩:=hF b hb
         exact ⟨⟨r,y,by simp [e1],e2⟩,e3⟩
        ·obtain ⟨r,y,e1,e2⟩:=hb1
         exact ⟨⟨r,y,by simp [e1],e2⟩,hb2⟩) (fun i' j hi' hj=>by
        rw [hlen] at hi'
        rw [s2 hle]
        simp only [Array.length_toList,hus]
        by_cases he:i'=i
        ·subst he
         rw [if_pos (by omega),if_pos rfl]
         have:i' * n + j - i' * n=j:=by omega
         rw [this]
         simp [hus,hj]
        ·rw [if_neg (fun hcc=>he ?_),if_neg he]
         ·exact hv i' j hi' hj
         ·obtain ⟨e1,e2⟩:=idx_div (i:=i') hj
          have h3:(i' * n + j - i * n) < n:=by omega
          obtain ⟨e3,e4⟩:=idx_div (i:=i) h3
          have h4:i * n + (i' * n + j - i * n)=i' * n + j:=by omega
          rw [h4] at e3
          rw [←e1,e3])
      refine ⟨vs',f',F',?_,k2,by rw [k3,hlen],k4,by rw [←List.append_assoc];exact k5,k6⟩
      rw [fill_cons (fun i=>some (i * n,n)) vs i u us rfl hus (by simpa [hus] using hle)]
      exact k1
     ·cases hf
    ·cases hf
   ·cases hf
theorem run_buildSlice' {P:Program} (w:World) (t e:TypeId) (len:Nat) (parts:Array (Nat × Value)) (cells:Array Value) (ie:TypeInfo) (z:Value)
  (hu:P.underlying t=some (.slice e)) (hie:P.info? e=some ie) (hz:ie.zero=some z) (hsmall:¬ len * ie.size > 2 ^ 24)
  (h:Instr.fill (fun i=>some (i * ie.size,ie.size)) (madeCells z.cells (len * ie.size)) parts.toList=some cells) :
  (Instr.buildSlice t len parts).run P w = .ok (.slice (some ⟨w.heap.size,0,none⟩) len len) (w.alloc (.cells cells e)):=by
 by_cases hp:len * ie.size=0
 ·have h':Instr.fill (fun i=>some (i * ie.size,ie.size)) #[] parts.toList=some cells:=by
   rw [hp] at h
   simpa [madeCells,Array.range_zero'] using h
  simp [Instr.buildSlice,Go.run_underlying hu,sizeOf,typeInfo,hie,hp,newRow,Array.range_zero',h']
 ·exact run_buildSlice w t e len parts cells ie z hu hie hz hsmall hp h
theorem buildSlice_done (hT:TOk X.P T) (hs:Sim X D s a w) (hD:¬ D i) (hd:∀ d,o.dst=some d→d < a.tmps.size) {t:TypeId} {n:Nat} {parts:Array (Nat × Operand)} {e:Eff} (ho:o.op = .buildSlice t n parts) (he:aop T s i o=some e):e.ok→Done X D s a w i o e:=by
 intro _
 simp only [aop,ho] at he
 split at he
 ·rename_i el _ _ ps hti hps
  split at he
  ·rename_i te hte
   split at he
   ·rename_i xs rs hf
    split at he
    ·cases he
    ·rename_i hb
     simp only [Bool.or_eq_true,Bool.not_eq_true',decide_eq_false_iff_not,not_or,Bool.not_eq_false,Decidable.not_not] at hb
     obtain ⟨b1,b2⟩:=hb
     injection he with he
     subst he
     obtain ⟨ii,dd,zz,hok⟩:=hT _ _ hti
     have hk:=hok.kok
     have hu:=hok.und
     cases dd<;>simp only [KOK] at hk
     rename_i el2
     subst hk
     obtain ⟨ie,de,ze,hoke⟩:=hT _ _ hte
     obtain ⟨-,-,ρ0,Fr0,m0,ht0⟩:=id hs
     obtain ⟨p1,p2⟩:=evParts_get hps
     have hall:∀ ρ Fr,Mem X s.h ρ Fr w→Tmps X s.t s.h ρ w a→∃ (vs':Array Value) (f':Nat→Nat→Value) (F':Nat→Prop),Instr.fill (fun i=>some (i * te.size,te.size)) (madeCells ze.cells (n * te.size)) (parts.map fun (i,x)=>(i,a.eval x)).toList=some vs'∧vs'.size=xs.length * te.size∧xs.length=n∧
       Rows w F' te.size xs f'∧(∀ b,F' b→Own s.h Fr rs b∧Free X b)∧(∀ i j,i < xs.length→j < te.size→vs'[i * te.size + j]? = some (f' i j)):=by
      intro ρ Fr m ht
      have:=fillSlice_sound (P:=X.P) m (us:=(parts.map fun (i,x)=>(i,a.eval x)).toList) (done := []) (vs:=madeCells ze.cells (n * te.size)) hf (by simp [p1]) (fun k i x hk=>by
       obtain ⟨y,q1,q2⟩:=p2 k i x hk
       refine ⟨a.eval y,?_,ev_sound ht q2⟩
       have q1':parts[k]? = some (i,y):=by simpa using q1
       simp [q1']) (by simpa using nodupR_iff.1 b1) (by simp [size_madeCells]) (zeros_rows hoke n w) (fun b hb=>hb.elim) (fun i j hi hj=>made_get hoke.zsize (by simpa using hi) hj)
      obtain ⟨vs',f',F',k1,k2,k3,k4,k5,k6⟩:=this
      exact ⟨vs',f',F',k1,k2,by simpa using k3,k4,by simpa using k5,k6⟩
     obtain ⟨-,-,-,-,-,hn,-⟩:=hall ρ0 Fr0 m0 ht0
     refine Sim.newrow hs hD hd (tk:=rs) (sz:=te.size) (xs:=xs) (nl:=some false) rfl (by simp [hn]) (by simp) (fun ρ Fr m ht => ?_)
     obtain ⟨vs',f',F',k1,k2,k3,k4,k5,k6⟩:=hall ρ Fr m ht
     refine ⟨w.alloc (.cells vs' el2),vs',el2,(0,0),n,f',F',?_,rfl,rfl,rfl,?_,?_,heap_push_new _,thaw0 _,?_,by omega,k4,k5,fun i j c x hi hj=>k6 i j (lt_len hi) ?_⟩
     ·have hsm:¬ n * ie.size > 2 ^ 24:=by rw [hoke.size];omega
      have:=run_buildSlice' (P:=X.P) w t el2 n (parts.map fun (i,x)=>(i,a.eval x)) vs' ie ze hu hoke.info hoke.zero hsm (by rw [hoke.size];exact k1)
      simp only [execOp,ho,Sem.run_bind,this,Result.andThen_ok,Sem.run_pure,k3]
     ·simp [World.alloc,-World.alloc_eq]
     ·exact fun b hb=>heap_push_old _ hb
     ·rw [k2,k3];omega
     ·obtain ⟨Fs,-,-,h3,-⟩:=k4
      rw [←h3 i c hi]
      exact lt_len hj
   ·cases he
  ·cases he
 ·cases he
theorem stringBytes_done (hT:TOk X.P T) (hs:Sim X D s a w) (hD:¬ D i) (hd:∀ d,o.dst=some d→d < a.tmps.size) {src dst el:TypeId} {x:Operand} {l:List UInt8} {n1 n2:Nat} {z1 z2 z3:List AV} (ho:o.op = .convert src dst x) (hx:s.ev x=some (.str l))
  (hsrc:T src=some ⟨.str,n1,z1⟩) (hdst:T dst=some ⟨.slice el,n2,z2⟩) (hel:T el=some ⟨.int .u8,1,z3⟩) :
  Done X D s a w i o { out := .ref (rt i 0) none 1 0 l.length (some false),wr := [(rt i 0,some (.row 1 (listToBytes l) []))] }:=by
 obtain ⟨i1,d1,zz1,ok1⟩:=hT _ _ hsrc
 obtain ⟨i2,d2,zz2,ok2⟩:=hT _ _ hdst
 obtain ⟨i3,d3,zz3,ok3⟩:=hT _ _ hel
 have k1:=ok1.kok
 have k2:=ok2.kok
 have k3:=ok3.kok
 have u1:=ok1.und
 have u2:=ok2.und
 have u3:=ok3.und
 cases d1<;>simp only [KOK] at k1
 cases d2<;>simp only [KOK] at k2
 rename_i el2
 cases d3<;>simp only [KOK] at k3
 subst k2 k3
 have hlen:(listToBytes l).length=l.length:=by simp [listToBytes]
 refine Sim.newrow hs hD hd (tk := []) (sz:=1) (xs:=listToBytes l) (nl:=some false) (by simp [gone]) (by simp [hlen]) (by simp) (fun ρ Fr m ht => ?_)
 obtain ⟨sb,e1,e2⟩:=(ev_sound ht hx).str_inv
 have hsz:sb.size=l.length:=by rw [size_data,e2]
 have hge:=grownCap_ge w sb.size 0 el2
 have hcs:(Lib.bytesCells w el2 sb).size=grownCap w sb.size 0 el2:=by
  simp only [Lib.bytesCells,Array.size_append,Array.size_map,Array.size_replicate]
  have:sb.data.size=sb.size:=rfl
  omega
 refine ⟨Lib.bytesWorld w el2 sb,Lib.bytesCells w el2 sb,el2,_,grownCap w sb.size 0 el2,_,fun _=>False,?_,?_,?_,?_,Lib.bytesWorld_size w el2 sb,fun b hb=>Lib.bytesWorld_at_old w el2 sb b hb,Lib.bytesWorld_at_new w el2 sb,?_,?_,?_,bytes_rows l w,fun b hb=>hb.elim,?_⟩
 ·have:=Lib.run_convert_string_bytes (P:=X.P) w src dst el2 sb u1 u2 u3
  simp only [execOp,ho,e1,Sem.run_bind,this,Result.andThen_ok,Sem.run_pure,hlen,hsz]
 ·simp only [Lib.bytesWorld,World.freeze]
  split<;>rfl
 ·simp only [Lib.bytesWorld,World.freeze]
  split<;>rfl
 ·simp only [Lib.bytesWorld,World.freeze]
  split<;>rfl
 ·intro k hk hfr
  omega
 ·rw [hcs];omega
 ·rw [hlen];omega
 ·intro i' j c y hi hj
  simp only [listToBytes,List.getElem?_map,Option.map_eq_some_iff] at hi
  obtain ⟨b,hb,rfl⟩:=hi
  cases j with
  | zero=>
   have hlt:i' < sb.size:=by rw [hsz];exact lt_len hb
   have hlt2:i' < sb.data.size:=hlt
   simp only [Lib.bytesCells,Nat.mul_one,Nat.add_zero]
   rw [Array.getElem?_append_left (by simpa using hlt2)]
   subst e2
   have hb':sb.data[i']? = some b:=by simpa using hb
   simp [hb']
  | succ j=>simp at hj
end

section
variable {P:Program} {w:World} {h:Heap} {ρ:Rho} {T:Types}
def Source (w:World) (sz:Nat) (ys:List (List AV)) (v:Value) (f:Nat→Nat→Value) (G:Nat→Prop):Prop:=
 ∃ (A:Option Addr) (c:Nat),v = .slice A ys.length c∧
  (∀ (i j:Nat) (c:List AV) (a:AV),ys[i]? = some c→c[j]? = some a→∃ B,A=some B∧w.cell? (B.add (i * sz + j))=some (f i j)∧(f i j).oneCell'=true)∧Rows w G sz ys f
theorem cell_at {sz:Nat} {ys:List (List AV)} (hsz:∀ (i:Nat) (c:List AV),ys[i]? = some c→c.length=sz) {i j:Nat} (hi:i < ys.length) (hj:j < sz):∃ c a,ys[i]? = some c∧c[j]? = some a:=by
 have h1:ys[i]? = some ys[i]:=by simp [hi]
 have h2:=hsz i _ h1
 exact ⟨ys[i],(ys[i])[j],h1,by simp [h2,hj]⟩
theorem Source.src {sz:Nat} {ys:List (List AV)} {v:Value} {f:Nat→Nat→Value} {G:Nat→Prop} (hs:Source w sz ys v f G) {u e':TypeId} (hu:P.underlying u=some (.slice e')):Src P sz u v ys.length (flatten ys.length sz f) w:=by
 obtain ⟨A,c,rfl,h1,Fs,-,-,h2,-⟩:=hs
 have hone:∀ x ∈ flatten ys.length sz f,x.oneCell'=true:=by
  intro x hx
  obtain ⟨k,hk⟩:=List.mem_iff_getElem?.1 hx
  obtain ⟨k1,k2,k3,-⟩:=flatten_get' hk
  obtain ⟨c',a,c1,c2⟩:=cell_at h2 k1 k2
  obtain ⟨B,-,-,h3⟩:=h1 _ _ c' a c1 c2
  rw [k3]
  exact h3
 cases A with
 | some B=>
  refine Src.ofSlice w hu B _ c _ (flatten_length _ _ _) (fun j x hj => ?_) hone
  obtain ⟨k1,k2,k3,k4⟩:=flatten_get' hj
  obtain ⟨c',a,c1,c2⟩:=cell_at h2 k1 k2
  obtain ⟨B',e1,e2,-⟩:=h1 _ _ c' a c1 c2
  injection e1 with e1
  subst e1
  rw [k3,←e2,k4]
 | none=>
  have h0:flatten ys.length sz f = []:=by
   refine List.eq_nil_of_length_eq_zero ?_
   rw [flatten_length]
   rcases Nat.eq_zero_or_pos (ys.length * sz) with h | h
   ·exact h
   ·exfalso
    have hy:0 < ys.length:=Nat.pos_of_ne_zero fun e=>by simp [e] at h
    have hz:0 < sz:=Nat.pos_of_ne_zero fun e=>by simp [e] at h
    obtain ⟨c',a,c1,c2⟩:=cell_at h2 hy hz
    obtain ⟨B',e1,-⟩:=h1 _ _ c' a c1 c2
    cases e1
  have hl:ys.length * sz=0:=by rw [←flatten_length ys.length sz f,h0];rfl
  rw [h0]
  refine ⟨.inl ⟨e',hu⟩,fun _=>rfl,?_,?_,by simp [hl],by simp⟩
  ·simp [Builtin.firstCells]
  ·simp [Builtin.firstCells]
theorem append_row {F G:Nat→Prop} {xs ys:List (List AV)} {sz n:Nat} {bc:Option Nat × Nat} (hx:(xs = []∧bc=(none,0))∨∃ g,bc.1=some g∧OC w F (.row sz xs) (.slice (some ⟨g,0,none⟩) xs.length bc.2))
  (hn:n≤xs.length) {t u ty e eu:TypeId} {te:TI} {ie:TypeInfo} {de:TypeDesc} {ze:Value} (hoke:TIok P e te ie de ze) (hsz:sz=te.size) (ht:P.underlying t=some (.slice e)) (hu:P.underlying u=some (.slice eu))
  {yv:Value} {f:Nat→Nat→Value} (hs:Source w sz ys yv f G) (hFG:∀ b,F b→¬ G b) (hFlt:∀ b,F b→b < w.heap.size) (hGlt:∀ b,G b→b < w.heap.size) (hlim:n + ys.length≤LIM) :
  ∃ (w':World) (bc':Option Nat × Nat) (F':Nat→Prop),(Builtin.append_ #[t,u] ty #[.slice (addrOf bc.1) n bc.2,yv]).run P w = .ok (.slice (addrOf bc'.1) (n + ys.length) bc'.2) w'∧
   w'.os=w.os∧w'.tape=w.tape∧w'.output=w.output∧w.heap.size≤w'.heap.size∧(∀ b,b < w.heap.size→bc.1≠some b→w'.heap[b]? = w.heap[b]?)∧
   (∀ b,bc.1=some b→∃ c c' ty fr,w.heap[b]? = some (.cells c ty fr)∧w'.heap[b]? = some (.cells c' ty fr)∧c'.size=c.size)∧
   ((xs.take n++ys = []∧bc'=(none,0))∨∃ g,bc'.1=some g∧OC w' F' (.row sz (xs.take n++ys)) (.slice (some ⟨g,0,none⟩) (xs.take n++ys).length bc'.2))∧
   (∀ b,F' b→F b∨G b∨(w.heap.size≤b∧b < w'.heap.size))∧(bc'.1=none→bc.1=none):=by
 subst hsz
 have hsrc:=hs.src (P:=P) hu
 have hL:LIM=1073741824:=rfl
 obtain ⟨A,cy,rfl,hcell,hrow⟩:=hs
 have hsrc':Src P ie.size u (.slice A ys.length cy) ys.length (flatten ys.length te.size f) w:=by rw [hoke.size];exact hsrc
 have hgrow:∀ (base:Option Addr) (sCap:Nat) (olds:List Value) (fo:Nat→Nat→Value) (Fo:Nat→Prop),(Builtin.firstCells ie.size n (.slice base n sCap)).run P w.drew = .ok olds.toArray w.drew→olds.length=n * te.size→
   Rows w Fo te.size (xs.take n) fo→(∀ i j,i < n→j < te.size→olds[i * te.size + j]? = some (fo i j))→(∀ b,Fo b→F b)→sCap < n + ys.length→
   ∃ (w':World) (bc':Option Nat × Nat) (F':Nat→Prop),(Builtin.append_ #[t,u] ty #[.slice base n sCap, .slice A ys.length cy]).run P w = .ok (.slice (addrOf bc'.1) (n + ys.length) bc'.2) w'∧
   w'.os=w.os∧w'.tape=w.tape∧w'.output=w.output∧w.heap.size≤w'.heap.size∧(∀ b,b < w.heap.size→w'.heap[b]? = w.heap[b]?)∧
   (∃ g,bc'.1=some g∧OC w' F' (.row te.size (xs.take n++ys)) (.slice (some ⟨g,0,none⟩) (xs.take n++ys).length bc'.2))∧(∀ b,F' b→F b∨G b∨(w.heap.size≤b∧b < w'.heap.size)):=by
  intro base sCap olds fo Fo hold hol hro hfo hFo hcap
  have hfit:Builtin.nextslicecap (n + ys.length) sCap * ie.bytes≤281474976710656:=growslice_fits hcap (by
   have:(n + ys.length) * ie.bytes≤1073741824 * 65536:=Nat.mul_le_mul (by omega) hoke.bytes
   omega)
  have hrun:=run_append_grow_src w t u ty e ie ze ht hoke.info hoke.zero base n sCap olds hold _ _ _ hsrc' hcap (by omega) hfit
  have hge:=grownCap_ge w (n + ys.length) sCap e
  generalize grownCap w (n + ys.length) sCap e=cap at hrun hge
  have hlx:(xs.take n).length=n:=by simp;omega
  generalize hcsdef:(olds++flatten ys.length te.size f).toArray++Builtin.zeroCells ze.cells (cap - (n + ys.length))=cs at hrun
  have hsize:cs.size=cap * te.size:=by
   rw [←hcsdef]
   simp only [Array.size_append,List.size_toArray,List.length_append,hol,flatten_length,size_zeroCells,hoke.zsize]
   rw [←Nat.add_mul,←Nat.add_mul]
   congr 1
   omega
  have hheap:(w.drew.alloc (.cells cs e)).heap=w.heap.push (.cells cs e):=rfl
  refine ⟨_,(some w.heap.size,cap),fun b=>b=w.heap.size∨(Fo b∨G b),hrun,rfl,rfl,rfl,by rw [hheap];simp,fun b hb=>by rw [hheap];exact heap_push_old _ hb,⟨w.heap.size,rfl,?_⟩,?_⟩
  ·have hrows:=hro.append hrow (fun b hb=>hFG b (hFo b hb))
   refine (hrows.move (w':=w.drew.alloc (.cells cs e)) (fun b hb => ?_)).row (g:=w.heap.size) (cs:=cs) (ty:=e) (fr:=(0,0)) (by rw [hheap];exact heap_push_new _) (thaw0 _) (by show cap * te.size≤cs.size;omega) (by simp;omega) ?_ ?_
   ·rw [hheap]
    exact heap_push_old _ (by rcases hb with hb | hb;exact hFlt b (hFo b hb);exact hGlt b hb)
   ·rintro (hb | hb)
    ·exact absurd (hFlt _ (hFo _ hb)) (Nat.lt_irrefl _)
    ·exact absurd (hGlt _ hb) (Nat.lt_irrefl _)
   ·intro i j c a hi hj
    have hi':=lt_len hi
    have hj':j < te.size:=by
     obtain ⟨Fs,-,-,h3,-⟩:=hrows
     rw [←h3 i c hi]
     exact lt_len hj
    simp only [List.length_append,hlx] at hi'
    have hall:(olds++flatten ys.length te.size f)[i * te.size + j]? = some (if i < (xs.take n).length then fo i j else f (i - (xs.take n).length) j):=by
     rw [hlx]
     by_cases hin:i < n
     ·rw [if_pos hin,List.getElem?_append_left (by rw [hol];exact idx_lt hin hj' (Nat.le_refl n) (Nat.le_refl _))]
      exact hfo i j hin hj'
     ·rw [if_neg hin]
      have hk:olds.length≤i * te.size + j:=by
       rw [hol]
       have:n * te.size≤i * te.size:=Nat.mul_le_mul_right _ (by omega)
       omega
      rw [List.getElem?_append_right hk,hol]
      have:i * te.size + j - n * te.size=(i - n) * te.size + j:=by
       rw [Nat.sub_mul]
       have:n * te.size≤i * te.size:=Nat.mul_le_mul_right _ (by omega)
       omega
      rw [this]
      exact flatten_get (by omega) hj'
    have hlt2:=lt_len hall
    rw [←hcsdef,Array.getElem?_append_left (by simpa using hlt2)]
    simpa using hall
  ·intro b hb
   rcases hb with rfl | hb | hb
   ·exact .inr (.inr ⟨Nat.le_refl _,by rw [hheap];simp⟩)
   ·exact .inl (hFo b hb)
   ·exact .inr (.inl hb)
 rcases hx with ⟨rfl,rfl⟩ | ⟨g,hg,ho⟩
 ·simp at hn
  subst hn
  cases ys with
  | nil=>
   refine ⟨w,(none,0),fun _=>False,?_,rfl,rfl,rfl,Nat.le_refl _,fun _ _ _=>rfl,by simp, .inl ⟨rfl,rfl⟩,fun b hb=>hb.elim,fun _=>rfl⟩
   have h0:flatten 0 te.size f = []:=List.eq_nil_of_length_eq_zero (by simp [flatten_length])
   simp only [List.length_nil,h0] at hsrc'
   exact run_append_nothing w t u ty e ie ht hoke.info none 0 0 (Nat.le_refl _) _ hsrc'
  | cons y ys=>
   obtain ⟨w',bc',F',h1,h2,h3,h4,h5,h6,h7,h8⟩:=hgrow none 0 [] (fun _ _=>Go.undef) (fun _=>False) (by simp [Builtin.firstCells]) (by simp) ⟨fun _ _ _=>False,by simp,by simp,by simp,by simp⟩ (by omega) (fun b hb=>hb.elim) (by simp)
   refine ⟨w',bc',F',h1,h2,h3,h4,h5,fun b hb _=>h6 b hb,by simp, .inr h7,h8,fun hn=>rfl⟩
 ·obtain ⟨b1,cap⟩:=bc
  simp only at hg ho
  subst hg
  rcases ho.rows with ⟨-,h2⟩ | ⟨g',cap',cs,ty',fr,e1,e2,e3,e4,e5,e6,e7,e8⟩
  ·cases h2
  ·injection e1 with e1 _ e1'
   injection e1 with e1
   injection e1 with e1 _ _
   subst e1 e1'
   by_cases hroom:n + ys.length≤cap
   ·-- in place
    have hcap2:(n + ys.length) * te.size≤cs.size:=Nat.le_trans (Nat.mul_le_mul_right _ hroom) e4
    rw [Nat.add_mul] at hcap2
    have hth:=there_of (w:=w) (o:=n * te.size) (n:=ys.length * te.size) e2 e3 hcap2
    have hrun:=run_append_room_src w t u ty e ie ht hoke.info g 0 n cap _ _ _ hsrc' hroom (fun j hj=>by
     rw [flatten_length] at hj
     have:=(hth j (by simpa using hj)).1
     simpa [hoke.size] using this) (fun j hj=>by
     rw [flatten_length] at hj
     have:=(hth j (by simpa using hj)).2
     simpa [hoke.size] using this)
    rw [hoke.size,Nat.zero_add] at hrun
    obtain ⟨k1,k2,k3,k4,k5,k6⟩:=setCells_heap (flatten ys.length te.size f) (n * te.size) e2
    generalize hw':w.setCells g (n * te.size) (flatten ys.length te.size f)=w' at *
    obtain ⟨s1,s2⟩:=setL_get (flatten ys.length te.size f) cs (n * te.size)
    have s2':=s2 (by rw [flatten_length];exact hcap2)
    have hlx:(xs.take n).length=n:=by simp;omega
    refine ⟨w',(some g,cap),fun b=>b=g∨((F b∧b≠g)∨G b),hrun,k4,k5,k6,by omega,fun b hb hne=>k2 b (fun e=>hne (by rw [e])),fun b hb => ?_, .inr ⟨g,rfl,?_⟩,?_,by simp⟩
    rotate_left
    ·have hrows:=(e7.take n).append hrow (fun b hb=>hFG b hb.1)
     refine (hrows.move (w':=w') (fun b hb => ?_)).row (g:=g) (cs:=setL cs (n * te.size) (flatten ys.length te.size f)) (ty:=ty') (fr:=fr) k1 ?_ ?_ (by simp;omega) ?_ ?_
     ·refine k2 b (fun e => ?_)
      subst e
      rcases hb with hb | hb
      ·exact hb.2 rfl
      ·exact hFG _ e6 hb
     ·intro k hk
      exact e3 k (by rw [s1] at hk;exact hk)
     ·rw [s1];exact e4
     ·rintro (hb | hb)
      ·exact hb.2 rfl
      ·exact hFG _ e6 hb
     ·intro i j c a hi hj
      have hi':=lt_len hi
      have hj':j < te.size:=by
       obtain ⟨Fs,-,-,h3,-⟩:=hrows
       rw [←h3 i c hi]
       exact lt_len hj
      simp only [List.length_append,hlx] at hi'
      rw [s2',flatten_length,hlx]
      by_cases hin:i < n
      ·have h1:i * te.size + j < n * te.size:=idx_lt hin hj' (Nat.le_refl n) (Nat.le_refl _)
       rw [if_neg (by omega)]
       have:=e8 i j (by omega) hj'
       rw [this]
       simp [hin]
      ·have h1:n * te.size≤i * te.size:=Nat.mul_le_mul_right _ (by omega)
       have h2:i * te.size + j < (n + ys.length) * te.size:=idx_lt (by omega) hj' (Nat.le_refl _) (Nat.le_refl _)
       rw [Nat.add_mul] at h2
       rw [if_pos (by omega)]
       have:i * te.size + j - n * te.size=(i - n) * te.size + j:=by
        rw [Nat.sub_mul]
        omega
       rw [this,flatten_get (by omega) hj']
       simp [hin]
    ·intro b hb
     rcases hb with rfl | hb | hb
     ·exact .inl e6
     ·exact .inl hb.1
     ·exact .inr (.inl hb)
    ·injection hb with hb
     subst hb
     exact ⟨cs,_,ty',fr,e2,k1,s1⟩
   ·-- a new row
    have holds:∀ k,k < n * te.size→cs[k]? = some (cs.getD k Go.undef):=fun k hk=>by
     have:n * te.size≤cap * te.size:=Nat.mul_le_mul_right _ (by omega)
     simp [show k < cs.size by omega]
    obtain ⟨w',bc',F',h1,h2,h3,h4,h5,h6,h7,h8⟩:=hgrow (some ⟨g,0,none⟩) cap ((List.range (n * te.size)).map fun k=>cs.getD k Go.undef) (fun i j=>cs.getD (i * te.size + j) Go.undef) (fun b=>F b∧b≠g)
     (by
      refine run_firstCells_some (P:=P) w.drew ie.size n ⟨g,0,none⟩ n cap _ (by simp [hoke.size]) (fun j v hj => ?_)
      simp only [List.getElem?_map,Option.map_eq_some_iff] at hj
      obtain ⟨k,q1,q2⟩:=hj
      have hk:=lt_len q1
      simp at hk
      rw [List.getElem?_range hk] at q1
      injection q1 with q1
      subst q1
      have hc:w.drew.cell? ((⟨g,0,none⟩:Addr).add j)=cs[j]?:=by
       rw [add_lit]
       exact (cell_of_heap (w:=w.drew) e2 _).trans (by rw [Nat.zero_add])
      rw [hc,holds j hk,q2]) (by simp) (e7.take n) (fun i j hi hj=>by
      have:=idx_lt hi hj (Nat.le_refl n) (Nat.le_refl _)
      simp [this]) (fun b hb=>hb.1) (by omega)
    refine ⟨w',bc',F',h1,h2,h3,h4,h5,fun b hb _=>h6 b hb,fun b hb => ?_, .inr h7,h8,fun hn => ?_⟩
    ·injection hb with hb
     subst hb
     exact ⟨cs,cs,ty',fr,e2,(h6 g (lt_of_heap e2)).trans e2,rfl⟩
    ·obtain ⟨g,k1,-⟩:=h7
     rw [k1] at hn
     cases hn
end

theorem Compat.row {w w':World} {h h':Heap} {ρ ρ':Rho} {r:Rid} {sz:Nat} {xs xs':List (List AV)} {dt dt':List Nat} (hl:look r h=some (.row sz xs dt)) (hl':look r h'=some (.row sz xs' dt')) (hρ:ρ' r=ρ r)
  (hlen:xs'.length=xs.length) (hsub:∀ i j sz1 ys',subRow sz xs' dt' (some (i,j))=some (sz1,ys')→∃ ys,subRow sz xs dt (some (i,j))=some (sz1,ys)∧ys'.length=ys.length∧
   ∀ g,(ρ r).1=some g→w'.cell? ⟨g,i * sz + j,none⟩=w.cell? ⟨g,i * sz + j,none⟩):Compat w h ρ w' h' ρ' r:=by
 have hplace:∀ i j sz1 ys' bc,subRow sz xs' dt' (some (i,j))=some (sz1,ys')→placeAt w (ρ r) sz (some (i,j)) bc→placeAt w' (ρ' r) sz (some (i,j)) bc:=by
  intro i j sz1 ys' bc h1 h2
  obtain ⟨ys,-,-,k3⟩:=hsub i j sz1 ys' h1
  obtain ⟨g,n,e1,e2⟩:=h2
  exact ⟨g,n,by rw [hρ];exact e1,by rw [k3 g e1];exact e2⟩
 constructor
 ·intro p sz1 ys' hg
  simp only [getRow,hl'] at hg
  cases p with
  | none=>
   simp only [subRow,Option.some.injEq,Prod.mk.injEq] at hg
   obtain ⟨rfl,rfl⟩:=hg
   refine ⟨xs,by simp [getRow,hl,subRow],by omega,fun bc hb => ?_⟩
   simp only [refAt,hl,hl',placeAt] at hb ⊢
   rw [hb,hρ]
  | some q=>
   obtain ⟨i,j⟩:=q
   obtain ⟨ys,k1,k2,k3⟩:=hsub i j sz1 ys' hg
   refine ⟨ys,by simp [getRow,hl,k1],by omega,fun bc hb => ?_⟩
   simp only [refAt,hl,hl'] at hb ⊢
   exact hplace i j sz1 ys' bc hg hb
 ·intro p i c' hg
  simp only [getChunk,hl'] at hg
  split at hg
  ·rename_i sz1 ys' hs
   have hk:∃ ys,subRow sz xs dt p=some (sz1,ys)∧ys'.length=ys.length:=by
    cases p with
    | none=>
     simp only [subRow,Option.some.injEq,Prod.mk.injEq] at hs
     obtain ⟨rfl,rfl⟩:=hs
     exact ⟨xs,rfl,hlen⟩
    | some q=>
     obtain ⟨i,j⟩:=q
     obtain ⟨ys,k1,k2,k3⟩:=hsub i j sz1 ys' hs
     exact ⟨ys,k1,k2⟩
   obtain ⟨ys,k1,k2⟩:=hk
   have hi:=lt_len hg
   refine ⟨⟨ys[i]'(by omega),by simp [getChunk,hl,k1,show i < ys.length by omega]⟩,fun g o hp => ?_⟩
   simp only [ptrAt,hl,hl'] at hp ⊢
   obtain ⟨sz2,ys2,bc,e1,e2,e3,e4⟩:=hp
   rw [k1] at e1
   simp only [Option.some.injEq,Prod.mk.injEq] at e1
   obtain ⟨rfl,rfl⟩:=e1
   refine ⟨sz1,ys',bc,hs,?_,e3,e4⟩
   cases p with
   | none=>
    simp only [placeAt] at e2 ⊢
    rw [e2,hρ]
   | some q=>
    obtain ⟨i,j⟩:=q
    exact hplace i j sz1 ys' bc hs e2
  ·cases hg
section
variable {X:Fix} {D:Nat→Prop} {s:St} {a:Act} {w:World} {i:Nat} {o:Oper} {T:Types}
theorem source_sound {h:Heap} {ρ:Rho} {Fr:Rid→Nat→Prop} (m:Mem X h ρ Fr w) {te:TI} {y:AV} {v:Value} (hv:VR w X.S h ρ y v) {ys:List (List AV)} {rd tk:List Rid} (hs:source h te y=some (ys,rd,tk)) (hf:needFlat te ys) :
  ∃ f G,Source w te.size ys v f G∧(∀ b,G b→Own h Fr tk b∧Free X b):=by
 unfold source at hs
 split at hs
 ·rename_i hfl
  simp only [Option.map_eq_some_iff,Prod.exists,Prod.mk.injEq] at hs
  obtain ⟨ys',rs,h1,rfl,rfl,rfl⟩:=hs
  obtain ⟨A,c,f,e1,e2,e3,e4⟩:=elems_sound m hv h1
  refine ⟨f,fun _=>False,⟨A,c,e1,fun i j c a hi hj => ?_,?_⟩,fun b hb=>hb.elim⟩
  ·obtain ⟨B,k1,k2,k3⟩:=e4 i j c a hi hj
   exact ⟨B,k1,k2,k3.one⟩
  ·exact Rows.flat (hf hfl) e3 (fun i j c a hi hj=>(e4 i j c a hi hj).choose_spec.2.2)
 ·simp only [Option.map_eq_some_iff,Prod.exists,Prod.mk.injEq] at hs
  obtain ⟨ys',rs,h1,rfl,rfl,rfl⟩:=hs
  unfold elemsTaken at h1
  split at h1
  ·simp only [Option.some.injEq,Prod.mk.injEq] at h1
   obtain ⟨rfl,rfl⟩:=h1
   obtain ⟨A,c,e1,e2⟩:=hv.frz_inv.1.slice_inv
   exact ⟨fun _ _=>Go.undef,fun _=>False,⟨A,c,e1,by simp,⟨fun _ _ _=>False,by simp,by simp,by simp,by simp⟩⟩,fun b hb=>hb.elim⟩
  ·rename_i r sz n nl
   split at h1
   ·rename_i sz' xs dt hl
    split at h1
    ·rename_i hc
     obtain ⟨rfl,rfl,rfl⟩:=hc
     simp only [Option.some.injEq,Prod.mk.injEq] at h1
     obtain ⟨rfl,rfl⟩:=h1
     obtain ⟨⟨F,f1,f2⟩,rfl,-,-⟩:=whole_root m hv hl
     rcases f2 with ⟨rfl,h2⟩ | ⟨g,h1,h2⟩
     ·rw [h2]
      exact ⟨fun _ _=>Go.undef,fun _=>False,⟨none,0,rfl,by simp,⟨fun _ _ _=>False,by simp,by simp,by simp,by simp⟩⟩,fun b hb=>hb.elim⟩
     ·rw [h1]
      rcases h2.rows with ⟨-,h3⟩ | ⟨g',cap',cs,ty',fr,e1,e2,e3,e4,e5,e6,e7,e8⟩
      ·cases h3
      ·injection e1 with e1 _ e1'
       injection e1 with e1
       injection e1 with e1 _ _
       subst e1
       refine ⟨_,_,⟨some ⟨g,0,none⟩,_,rfl,fun i j c a hi hj => ?_,e7⟩,fun b hb=>⟨⟨r,_,by simp,hl,(f1 b hb.1).1⟩,(f1 b hb.1).2⟩⟩
       have hj':j < te.size:=by
        obtain ⟨Fs,-,-,h3,-⟩:=e7
        rw [←h3 i c hi]
        exact lt_len hj
       have hk:=e8 i j (lt_len hi) hj'
       refine ⟨_,rfl,?_,?_⟩
       ·rw [add_lit,cell_of_heap e2,←hk,Nat.zero_add]
       ·obtain ⟨Fs,-,-,-,h4⟩:=e7
        exact (h4 i j c a hi hj).one
    ·cases h1
   ·cases h1
  ·cases h1
theorem run_builtin_append {c:Call} {x y:Operand} (ho:o.op = .call c) (hc:c.callee = .builtin .append) (hx:c.args.toList = [x,y]) {t u:TypeId} (ht:c.argTypes.toList = [t,u]) {v:Value} {w':World}
  (h:(Builtin.append_ #[t,u] o.type #[a.eval x,a.eval y]).run X.P w = .ok v w'):(execOp a.eval o).run X.P w = .ok (.value v) w':=by
 have e1:c.args = #[x,y]:=Array.toList_inj.1 (by simpa using hx)
 have e2:c.argTypes = #[t,u]:=Array.toList_inj.1 (by simpa using ht)
 simp [execOp,ho,resolve,hc,invoke,builtin,e1,e2,h]
theorem stays_ok {h:Heap} {ρ:Rho} {S:Nat→Prop} {r:Rid} {p:Path} {sz off n c:Nat} {nl:Option Bool} {v:Value} {g g':Option Nat} (hv:VR w S h ρ (.ref r p sz off n nl) v) (he:v = .slice (addrOf g) n c) (hn:g'=none→g=none) {b:Bool} (hb:stays nl=some b):g'.isNone=b:=by
 have hv2:=hv.ref_inv
 cases hv2 with
 | fv hf=>cases hf
 | ref g1 g2 g3=>
  cases nl with
  | none=>cases hb
  | some q=>
   cases q with
   | true=>cases hb
   | false=>
    simp only [stays,Option.some.injEq] at hb
    subst hb
    have h3:=g2 false rfl
    rw [he] at h3
    cases g' with
    | some _=>rfl
    | none=>
     rw [hn rfl] at h3
     simp [addrOf,nilV] at h3
theorem subRow_inv {sz:Nat} {xs:List (List AV)} {dt:List Nat} {i j sz1:Nat} {ys:List (List AV)} (h:subRow sz xs dt (some (i,j))=some (sz1,ys)):dt.contains j=false∧∃ c,xs[i]? = some c∧c[j]? = some (.row sz1 ys):=by
 simp only [subRow] at h
 split at h
 ·cases h
 ·rename_i hd
  split at h
  ·rename_i c hc
   split at h
   ·rename_i hcj
    simp only [Option.some.injEq,Prod.mk.injEq] at h
    obtain ⟨rfl,rfl⟩:=h
    exact ⟨by simpa using hd,c,hc,hcj⟩
   ·cases h
  ·cases h
theorem subRow_of {sz:Nat} {xs:List (List AV)} {dt:List Nat} {i j sz1:Nat} {ys:List (List AV)} {c:List AV} (h1:dt.contains j=false) (h2:xs[i]? = some c) (h3:c[j]? = some (.row sz1 ys)):subRow sz xs dt (some (i,j))=some (sz1,ys):=by
 simp only [subRow,h1,h2,h3]
 simp
theorem append_nested (hT:TOk X.P T) (hs:Sim X D s a w) (hD:¬ D i) (hd:∀ d,o.dst=some d→d < a.tmps.size) {c:Call} {ox oy:Operand} (ho:o.op = .call c) (hc:c.callee = .builtin .append) (hargs:c.args.toList = [ox,oy]) {t u:TypeId} (hat:c.argTypes.toList = [t,u])
  {y:AV} {r:Rid} {i' j' sz0 n:Nat} {nl:Option Bool} (hx:s.ev ox=some (.ref r (some (i',j')) sz0 0 n nl)) (hy:s.ev oy=some y) {szr:Nat} {xs0:List (List AV)} {dt:List Nat} (hlr:look r s.h=some (.row szr xs0 dt)) {sz':Nat} {xs:List (List AV)}
  (hsub:subRow szr xs0 dt (some (i',j'))=some (sz',xs)) {te:TI} {tk rd:List Rid} {ys:List (List AV)} (hcond:(n≤xs.length∧sz0=te.size∧sz'=sz0)∧memR r tk=false) {c0:List AV} (hc0:xs0[i']? = some c0) {el el':TypeId} {ie:TypeInfo} {de:TypeDesc} {ze:Value}
  (hoke:TIok X.P el te ie de ze) (u1:X.P.underlying t=some (.slice el)) (u2:X.P.underlying u=some (.slice el')) (hsrc:source s.h te y=some (ys,rd,tk)) {e:Eff} (hok0:needFlat te ys)
  (he:appendRes i te.size (xs.take n++ys) (stays nl) (needFlat te ys) ((r,some (.row szr (xs0.set i' (c0.set j' .unk)) dt)) :: gone tk) (r :: rd)=some e):Done X D s a w i o e:=by
 obtain ⟨⟨c1,c2,c3⟩,c4⟩:=hcond
 subst c2 c3
 unfold appendRes at he
 split at he
 ·rename_i hlim
  injection he with he
  subst he
  obtain ⟨hl,hS,ρ,Fr,m,ht⟩:=hs
  obtain ⟨hdt,c0',hc0',hcj⟩:=subRow_inv hsub
  rw [hc0] at hc0'
  injection hc0' with hc0'
  subst hc0'
  -- where the row lies
  have hvx:=ev_sound ht hx
  have hv2:=hvx.ref_inv
  cases hv2 with
  | fv hf=>cases hf
  | ref g1 g2 g3=>
  obtain ⟨-,-,bc,q1,q2⟩:=g1 te.size xs (by simp [getRow,hlr,hsub])
  simp only [refAt,hlr] at q1
  obtain ⟨g,n',q3,q4⟩:=q1
  obtain ⟨A,cap,q5,q6,-⟩:=q2
  obtain ⟨rfl,rfl⟩:=q6 rfl
  obtain ⟨A',cap',q7,q8,-⟩:=g3
  rw [q5] at q7
  injection q7 with _ _ q7
  subst q7
  rcases m.root r _ hlr with ⟨g',k1,k2,k3⟩ | ⟨-,k2⟩
  rotate_left
  ·subst k2;simp at hc0
  rw [q3] at k1
  injection k1 with k1
  subst k1
  rcases k2.row_inv with ⟨-,k4⟩ | ⟨g2,cap2,cs,ty2,fr2,Fs,f1,f2,f3,f4,f5,f6,f7,f8,f9,f10⟩
  ·cases k4
  injection f1 with f1 _ f1'
  injection f1 with f1
  injection f1 with f1 _ _
  subst f1
  obtain ⟨uv,r1,r2⟩:=f10 i' j' c0 _ hc0 hcj
  have huv:uv = .slice (addrOf bc.1) n' bc.2:=by
   rw [cell_of_heap f2,r1] at q4
   injection q4
  subst huv
  have hrowx:(xs = []∧bc=(none,0))∨∃ g,bc.1=some g∧OC w (Fs i' j') (.row te.size xs) (.slice (some ⟨g,0,none⟩) xs.length bc.2):=by
   rcases r2.rows with ⟨e1,e2⟩ | ⟨g3,cap3,cs3,ty3,fr3,e1,-⟩
   ·left
    refine ⟨e1,?_⟩
    injection e2 with e2 _ e3
    obtain ⟨b1,b2⟩:=bc
    cases b1
    ·simp at e3;rw [e3]
    ·simp [addrOf] at e2
   ·right
    injection e1 with e1 e2 e3
    obtain ⟨b1,b2⟩:=bc
    cases b1 with
    | none=>simp [addrOf] at e1
    | some g4=>
     refine ⟨g4,rfl,?_⟩
     simp only [addrOf,Option.map_some] at r2
     rw [e2] at r2
     exact r2
  obtain ⟨f,G,s1,s2⟩:=source_sound m (ev_sound ht hy) hsrc hok0
  have hFr:∀ i j b,Fs i j b→Fr r b:=fun i j b hb=>(f7 i j b hb).1
  have hlt:∀ b,Fr r b→b < w.heap.size:=fun b hb=>(m.foot r _ b hlr hb).1
  have hGlt:∀ b,G b→b < w.heap.size:=fun b hb=>by
   obtain ⟨q,y,-,e2,e3⟩:=(s2 b hb).1
   exact (m.foot q y b e2 e3).1
  have hrtk:r ∉ tk:=fun h=>by rw [memR_iff.2 h] at c4;cases c4
  have hFrG:∀ b,Fr r b→¬ G b:=fun b hb hb'=>by
   obtain ⟨q,y,e1,e2,e3⟩:=(s2 b hb').1
   exact hrtk (m.disj r _ q y b hlr e2 hb e3 ▸ e1)
  have hlim':n + ys.length≤LIM:=by simp at hlim;omega
  obtain ⟨w',bc',F',hrun,hos,htape,hout,hsize,hkeep,hsame,hrow,hF',hnone⟩:=append_row (P:=X.P) (t:=t) (u:=u) (ty:=o.type) hrowx c1 hoke rfl u1 u2 s1 (fun b hb=>hFrG b (hFr _ _ _ hb)) (fun b hb=>hlt b (hFr _ _ _ hb)) hGlt hlim'
  have hrun':=run_builtin_append (X:=X) (a:=a) ho hc hargs hat (by rw [q5];exact hrun)
  have hzl:(xs.take n++ys).length=n + ys.length:=by simp;omega
  have hblk:∀ b,bc.1=some b→Fs i' j' b:=fun b hb=>by
   rcases hrowx with ⟨-,e2⟩ | ⟨g',e1,e2⟩
   ·rw [e2] at hb;cases hb
   ·rw [hb] at e1
    injection e1 with e1
    subst e1
    exact e2.base
  have h0:=fresh_root (i:=i) (k:=0) hl hD (by omega)
  have hr0:r≠rt i 0:=fun e=>by rw [e,h0] at hlr;cases hlr
  generalize hwr:((r,some (Root.row szr (xs0.set i' (c0.set j' .unk)) dt)) :: gone tk) ++ [(rt i 0,some (.row te.size (xs.take n++ys) []))]=wr
  have hmem:∀ q,q ∈ wr.map (·.1)↔q=r∨q ∈ tk∨q=rt i 0:=fun q=>by
   rw [←hwr]
   simp only [List.map_append,List.map_cons,List.mem_append,List.mem_cons,mem_gone,List.map_nil,List.not_mem_nil,or_false,or_assoc]
  have hlook:∀ q,look q (applyWr wr s.h)=if q=rt i 0 then some (.row te.size (xs.take n++ys) []) else if q=r then some (.row szr (xs0.set i' (c0.set j' .unk)) dt) else if q ∈ tk then none else look q s.h:=fun q=>by
   rw [look_applyWr,←hwr,lastWr_append]
   simp only [lastWr,lastWr_gone]
   by_cases e1:q=rt i 0
   ·simp [e1]
   ·by_cases e2:q=r
    ·subst e2
     simp [e1,hrtk]
    ·by_cases e3:q ∈ tk<;>simp [e1,e2,e3]
  have hlk0:look (rt i 0) (applyWr wr s.h)=some (.row te.size (xs.take n++ys) []):=by rw [hlook,if_pos rfl]
  have hlkr:look r (applyWr wr s.h)=some (.row szr (xs0.set i' (c0.set j' .unk)) dt):=by rw [hlook,if_neg hr0,if_pos rfl]
  have honly:∀ q z,q ∈ wr.map (·.1)→look q (applyWr wr s.h)=some z→(q=rt i 0∧z = .row te.size (xs.take n++ys) [])∨(q=r∧z = .row szr (xs0.set i' (c0.set j' .unk)) dt):=fun q z hq hz=>by
   rw [hlook] at hz
   by_cases e1:q=rt i 0
   ·rw [if_pos e1] at hz
    injection hz with hz
    exact .inl ⟨e1,hz.symm⟩
   ·rw [if_neg e1] at hz
    by_cases e2:q=r
    ·rw [if_pos e2] at hz
     injection hz with hz
     exact .inr ⟨e2,hz.symm⟩
    ·rcases (hmem q).1 hq with h | h | h
     ·exact absurd h e2
     ·simp [e2,h] at hz
     ·exact absurd h e1
  have hgsame:w'.heap[g]? = w.heap[g]?:=hkeep g (hlt g f6) (fun e=>(f7 _ _ _ (hblk g e)).2 rfl)
  refine ⟨_,_,_,hrun', .inl rfl,?_⟩
  refine Sim.write (i:=i) hl hS m ht (e:={ ok:=_,out:=_,wr:=wr,rd:=_ }) (ρ':=fun q=>if q=rt i 0 then bc' else ρ q) (Fr':=fun q=>if q=rt i 0 then fun b=>F' b∧bc'.1≠none else if q=r then fun b=>Fr r b∧¬ Fs i' j' b else Fr q) ?_ hos htape hout hsize ?_ ?_ ?_ ?_ ?_ ?_ hd ?_ ?_ ?_
  ·intro q hq
   have e1:q≠rt i 0:=fun e=>hq ((hmem q).2 (.inr (.inr e)))
   have e2:q≠r:=fun e=>hq ((hmem q).2 (.inl e))
   simp [e1,e2]
  ·intro b hb hk
   exact hkeep b hb (fun e=>hk r _ ((hmem r).2 (.inl rfl)) hlr (hFr _ _ _ (hblk b e)))
  ·intro b q z hq hz hf hb
   by_cases hbc:bc.1=some b
   ·obtain ⟨c,c',ty,fr,e1,e2,e3⟩:=hsame b hbc
    rw [e1,e2]
    exact ObjSame.free hb (k3 b (hFr _ _ _ (hblk b hbc))) e3
   ·exact .inl (hkeep b (m.foot q z b hz hf).1 hbc)
  ·intro q z hq hz
   rcases honly q z hq hz with ⟨rfl,rfl⟩ | ⟨rfl,rfl⟩
   ·simp only [if_true]
    rcases hrow with ⟨e1,e2⟩ | ⟨g,e1,e2⟩
    ·exact .inr ⟨e2,e1⟩
    ·refine .inl ⟨g,e1,e2.mono (fun b hb=>⟨hb,by rw [e1];simp⟩),fun b hb => ?_⟩
     rcases hF' b hb.1 with h | h | h
     ·exact k3 b (hFr _ _ _ h)
     ·exact (s2 b h).2
     ·exact .inl (by have:=m.size;omega)
   ·simp only [hr0,if_false,if_true]
    refine .inl ⟨g,q3,?_,fun b hb=>k3 b hb.1⟩
    have hlen:(xs0.set i' (c0.set j' .unk)).length=xs0.length:=by simp
    rw [hlen,f1']
    have:=OC.row (w:=w') (F:=fun b=>Fr q b∧¬ Fs i' j' b) (sz:=szr) (xs:=xs0.set i' (c0.set j' .unk)) (g:=g) (cap:=cap2) (cs:=cs) (ty:=ty2) (fr:=fr2) (fun i j b=>Fs i j b∧¬ Fs i' j' b) (by rw [hgsame];exact f2) f3 f4 (by rw [hlen];exact f5)
     ⟨f6,fun h=>(f7 _ _ _ h).2 rfl⟩ (fun i j b hb=>⟨⟨(f7 i j b hb.1).1,hb.2⟩,(f7 i j b hb.1).2⟩) (fun i j i2 j2 b h1 h2=>f8 i j i2 j2 b h1.1 h2.1) (fun k c hk => ?_) (fun k j c x v hk hj hv => ?_)
    ·rw [hlen] at this
     exact this
    ·rw [List.getElem?_set] at hk
     split at hk
     ·split at hk
      ·injection hk with hk
       subst hk
       simpa using f9 _ _ hc0
      ·cases hk
     ·exact f9 _ _ hk
    ·have hmv:∀ k j c x v,xs0[k]? = some c→c[j]? = some x→cs[k * szr + j]? = some v→(k≠i'∨j≠j')→OC w' (fun b=>Fs k j b∧¬ Fs i' j' b) x v:=by
      intro k j c x v e1 e2 e3 hne
      obtain ⟨u0,w1,w2⟩:=f10 k j c x e1 e2
      rw [e3] at w1
      injection w1 with w1
      subst w1
      have hdj:∀ b,Fs k j b→¬ Fs i' j' b:=fun b h1 h2=>by
       obtain ⟨e1,e2⟩:=f8 _ _ _ _ b h1 h2
       rcases hne with h | h
       ·exact h e1
       ·exact h e2
      refine (w2.move (w':=w') (fun b hb=>hkeep b (hlt b (hFr _ _ _ hb)) (fun e=>hdj b hb (hblk b e)))).mono (fun b hb=>⟨hb,hdj b hb⟩)
     rw [List.getElem?_set] at hk
     split at hk
     ·rename_i ek
      subst ek
      split at hk
      ·injection hk with hk
       subst hk
       rw [List.getElem?_set] at hj
       split at hj
       ·rename_i ej
        subst ej
        split at hj
        ·injection hj with hj
         subst hj
         rw [r1] at hv
         injection hv with hv
         subst hv
         exact .unk rfl
        ·cases hj
       ·rename_i ej
        exact hmv _ _ _ _ _ hc0 hj hv (.inr (Ne.symm ej))
      ·cases hk
     ·rename_i ek
      exact hmv _ _ _ _ _ hk hj hv (.inl (Ne.symm ek))
  ·intro q z b hq hz hb
   rcases honly q z hq hz with ⟨rfl,rfl⟩ | ⟨rfl,rfl⟩
   ·simp only [if_true] at hb
    rcases hF' b hb.1 with h | h | h
    ·exact ⟨by have:=hlt b (hFr _ _ _ h);omega, .inr ⟨r,_,(hmem r).2 (.inl rfl),hlr,hFr _ _ _ h⟩⟩
    ·obtain ⟨q,y,e1,e2⟩:=(s2 b h).1
     exact ⟨by have:=hGlt b h;omega, .inr ⟨q,y,(hmem q).2 (.inr (.inl e1)),e2⟩⟩
    ·exact ⟨h.2, .inl h.1⟩
   ·simp only [hr0,if_false,if_true] at hb
    exact ⟨by have:=hlt b hb.1;omega, .inr ⟨q,_,(hmem q).2 (.inl rfl),hlr,hb.1⟩⟩
  ·have hex:∀ b,(F' b∧bc'.1≠none)→(Fr r b∧¬ Fs i' j' b)→False:=fun b h1 h2=>by
    rcases hF' b h1.1 with h | h | h
    ·exact h2.2 h
    ·exact hFrG b h2.1 h
    ·have:=hlt b h2.1
     omega
   intro q z q' z' b hq hq' hz hz' hb hb'
   rcases honly q z hq hz with ⟨rfl,rfl⟩ | ⟨rfl,rfl⟩<;>rcases honly q' z' hq' hz' with ⟨e,rfl⟩ | ⟨e,rfl⟩
   ·exact e.symm
   ·subst e
    simp only [hr0,if_false,if_true] at hb hb'
    exact (hex b hb hb').elim
   ·subst e
    simp only [hr0,if_false,if_true] at hb hb'
    exact (hex b hb' hb).elim
   ·exact e.symm
  ·intro q hq hlq
   rcases (hmem q).1 hq with h | h | h
   ·subst h
    refine Compat.row hlr hlkr (by simp [hr0]) (by simp) (fun i j sz1 ys' hs1 => ?_)
    obtain ⟨d1,c1',d2,d3⟩:=subRow_inv hs1
    have hold:∃ c,xs0[i]? = some c∧c[j]? = some (.row sz1 ys'):=by
     rw [List.getElem?_set] at d2
     split at d2
     ·rename_i ek
      subst ek
      split at d2
      ·injection d2 with d2
       subst d2
       rw [List.getElem?_set] at d3
       split at d3
       ·split at d3<;>cases d3
       ·exact ⟨c0,hc0,d3⟩
      ·cases d2
     ·exact ⟨_,d2,d3⟩
    obtain ⟨c,d4,d5⟩:=hold
    refine ⟨ys',subRow_of d1 d4 d5,rfl,fun g' hg' => ?_⟩
    rw [q3] at hg'
    injection hg' with hg'
    subst hg'
    exact cell_congr hgsame _
   ·refine Compat.gone ?_
    have e1:q≠rt i 0:=fun e=>not_lab hD (by omega) (e ▸ hlq)
    have e2:q≠r:=fun e=>hrtk (e ▸ h)
    rw [hlook,if_neg e1,if_neg e2,if_pos h]
   ·exact absurd (h ▸ hlq) (not_lab hD (by omega))
  ·obtain ⟨b1,cap'⟩:=bc'
   have hcap:(xs.take n++ys).length≤cap'∧(xs.take n++ys ≠ []→b1≠none)∧(b1=none→cap'=0):=by
    rcases hrow with ⟨e1,e2⟩ | ⟨g,e1,e2⟩
    ·injection e2 with e2 e3
     subst e2 e3
     simp [e1]
    ·obtain ⟨g2,c2,e3,e4,-⟩:=e2.slice_inv
     injection e3 with _ _ e3
     simp only at e1
     subst e1 e3
     exact ⟨e4,by simp,by simp⟩
   have:=VR.newrow (w':=w') (S:=X.S) (nl:=stays nl) hlk0 hcap.1 hcap.2.1 hcap.2.2 (fun b hb=>stays_ok hvx q5 hnone hb) (ρ':=fun q=>if q=rt i 0 then (b1,cap') else ρ q) (by simp)
   rw [hzl] at this
   show VR _ _ _ _ (.ref (rt i 0) none te.size 0 (xs.take n++ys).length (stays nl)) _
   rw [hzl]
   exact this
  ·intro q hq
   simp [rids,rid2,rid1] at hq
   subst hq
   exact lab_rt (by omega)
  ·intro q z hq hz
   rcases honly q z hq hz with ⟨rfl,rfl⟩ | ⟨rfl,rfl⟩
   ·exact ⟨lab_rt (by omega),by simp [ridsBox]⟩
   ·exact ⟨(hl q (.inr ⟨q,_,hlr, .inl rfl⟩)).mono fun _ h => .inl h,by simp [ridsBox]⟩
 ·cases he
theorem append_done (hT:TOk X.P T) (hs:Sim X D s a w) (hD:¬ D i) (hd:∀ d,o.dst=some d→d < a.tmps.size) {c:Call} {ox oy:Operand} (ho:o.op = .call c) (hc:c.callee = .builtin .append) (hargs:c.args.toList = [ox,oy]) {t u:TypeId} (hat:c.argTypes.toList = [t,u])
  {x y:AV} (hx:s.ev ox=some x) (hy:s.ev oy=some y) {e:Eff} (he:appendAV T s.h i t u x y=some e):e.ok→Done X D s a w i o e:=by
 intro hok0
 unfold appendAV at he
 split at he
 ·rename_i el _ _ el' _ _ hti hui
  obtain ⟨i1,d1,z1,ok1⟩:=hT _ _ hti
  obtain ⟨i2,d2,z2,ok2⟩:=hT _ _ hui
  have k1:=ok1.kok
  have k2:=ok2.kok
  have u1:=ok1.und
  have u2:=ok2.und
  cases d1<;>simp only [KOK] at k1
  rename_i el1
  cases d2<;>simp only [KOK] at k2
  rename_i el2
  subst k1 k2
  split at he
  ·rename_i te hte
   obtain ⟨ie,de,ze,hoke⟩:=hT _ _ hte
   split at he
   ·rename_i ys rd tk hsrc
    unfold appendTo at he
    split at he
    ·-- onto nil
     rename_i sz0
     unfold appendRes at he
     split at he
     ·rename_i hlim
      injection he with he
      subst he
      obtain ⟨hl,hS,ρ,Fr,m,ht⟩:=hs
      have h1:=nil_frz_inv (ev_sound ht hx)
      obtain ⟨f,G,s1,s2⟩:=source_sound m (ev_sound ht hy) hsrc hok0
      have hGlt:∀ b,G b→b < w.heap.size:=fun b hb=>by
       obtain ⟨q,y,-,e2,e3⟩:=(s2 b hb).1
       exact (m.foot q y b e2 e3).1
      obtain ⟨w',bc',F',hrun,hos,htape,hout,hsize,hkeep,hsame,hrow,hF',hnone⟩:=append_row (P:=X.P) (F:=fun _=>False) (xs := []) (n:=0) (bc:=(none,0)) (t:=t) (u:=u) (ty:=o.type) (.inl ⟨rfl,rfl⟩) (by simp) hoke rfl u1 u2 s1 (fun b hb=>hb.elim) (fun b hb=>hb.elim) hGlt (by simpa using hlim)
      have hrun':=run_builtin_append (X:=X) (a:=a) ho hc hargs hat (by rw [h1];exact hrun)
      simp only [List.take_nil,List.nil_append] at hrow
      have hlook:look (rt i 0) (applyWr (gone tk ++ [(rt i 0,some (.row te.size ys []))]) s.h)=some (.row te.size ys []):=by
       rw [look_applyWr,lastWr_append]
       simp [lastWr]
      refine ⟨_,_,_,hrun', .inl rfl,?_⟩
      refine Sim.fresh hD hl hS m ht (tk:=tk) (x := .row te.size ys []) (bc:=bc') (F0:=fun b=>F' b∧bc'.1≠none) rfl hos htape hout hsize (fun b hb _=>hkeep b hb (by simp)) (fun b r y _ hy' hf hb => .inl (hkeep b (m.foot r y b hy' hf).1 (by simp))) ?_ ?_ hd ?_ ?_ ?_
      ·rcases hrow with ⟨e1,e2⟩ | ⟨g,e1,e2⟩
       ·exact .inr ⟨e2,e1⟩
       ·refine .inl ⟨g,e1,e2.mono (fun b hb=>⟨hb,by rw [e1];simp⟩),fun b hb => ?_⟩
        rcases hF' b hb.1 with h | h | h
        ·exact h.elim
        ·exact (s2 b h).2
        ·exact .inl (by have:=m.size;omega)
      ·intro b hb
       rcases hF' b hb.1 with h | h | h
       ·exact h.elim
       ·exact ⟨by have:=hGlt b h;omega, .inr (s2 b h).1⟩
       ·exact ⟨h.2, .inl h.1⟩
      ·obtain ⟨b1,cap'⟩:=bc'
       have hcap:ys.length≤cap'∧(ys ≠ []→b1≠none)∧(b1=none→cap'=0):=by
        rcases hrow with ⟨e1,e2⟩ | ⟨g,e1,e2⟩
        ·injection e2 with e2 e3
         subst e1 e2 e3
         simp
        ·obtain ⟨A,c2,e3,e4⟩:∃ A c2,Value.slice (some ⟨g,0,none⟩) ys.length cap' = .slice A ys.length c2∧ys.length≤c2:=by
          obtain ⟨g2,c2,e3,e4,-⟩:=e2.slice_inv
          exact ⟨_,_,e3,e4⟩
         injection e3 with _ _ e3
         simp only at e1
         subst e1 e3
         simp [e4]
       simpa using VR.newrow (S:=X.S) (nl:=none) hlook hcap.1 hcap.2.1 hcap.2.2 (by simp) (ρ':=fun r=>if r=rt i 0 then (b1,cap') else ρ r) (by simp)
      ·intro r hr
       simp [rids,rid2,rid1] at hr
       subst hr
       exact lab_rt (by omega)
      ·simp [ridsBox]
     ·cases he
    ·-- onto a root
     rename_i r sz0 n nl
     split at he
     ·rename_i sz' xs dt hlr
      split at he
      ·rename_i hcond
       obtain ⟨⟨c1,c2,c3⟩,c4⟩:=hcond
       subst c2 c3
       unfold appendRes at he
       split at he
       ·rename_i hlim
        injection he with he
        subst he
        obtain ⟨hl,hS,ρ,Fr,m,ht⟩:=hs
        obtain ⟨⟨F,f1,f2⟩,hv,-,hcapn⟩:=whole_root m (ev_sound ht hx) hlr
        obtain ⟨f,G,s1,s2⟩:=source_sound m (ev_sound ht hy) hsrc hok0
        have hGlt:∀ b,G b→b < w.heap.size:=fun b hb=>by
         obtain ⟨q,y,-,e2,e3⟩:=(s2 b hb).1
         exact (m.foot q y b e2 e3).1
        have hFlt:∀ b,F b→b < w.heap.size:=fun b hb=>(m.foot r _ b hlr (f1 b hb).1).1
        have hrtk:r ∉ tk:=fun h=>by rw [memR_iff.2 h] at c4;cases c4
        have hFG:∀ b,F b→¬ G b:=fun b hb hb'=>by
         obtain ⟨q,y,e1,e2,e3⟩:=(s2 b hb').1
         exact hrtk (m.disj r _ q y b hlr e2 (f1 b hb).1 e3 ▸ e1)
        have hlim':n + ys.length≤LIM:=by simp at hlim;omega
        obtain ⟨w',bc',F',hrun,hos,htape,hout,hsize,hkeep,hsame,hrow,hF',hnone⟩:=append_row (P:=X.P) (t:=t) (u:=u) (ty:=o.type) f2 c1 hoke rfl u1 u2 s1 hFG hFlt hGlt hlim'
        have hrun':=run_builtin_append (X:=X) (a:=a) ho hc hargs hat (by rw [hv];exact hrun)
        have hzl:(xs.take n++ys).length=n + ys.length:=by simp;omega
        have hblk:∀ g,(ρ r).1=some g→F g:=fun g hg=>by
         rcases f2 with ⟨-,e2⟩ | ⟨g',e1,e2⟩
         ·rw [e2] at hg;cases hg
         ·rw [hg] at e1
          injection e1 with e1
          subst e1
          exact e2.base
        have hlook:look (rt i 0) (applyWr (gone (r :: tk) ++ [(rt i 0,some (.row te.size (xs.take n++ys) []))]) s.h)=some (.row te.size (xs.take n++ys) []):=by
         rw [look_applyWr,lastWr_append]
         simp [lastWr]
        refine ⟨_,_,_,hrun', .inl rfl,?_⟩
        refine Sim.fresh hD hl hS m ht (tk:=r :: tk) (x := .row te.size (xs.take n++ys) []) (bc:=bc') (F0:=fun b=>F' b∧bc'.1≠none) rfl hos htape hout hsize ?_ ?_ ?_ ?_ hd ?_ ?_ ?_
        ·exact fun b hb hk=>hkeep b hb (fun e=>hk r _ (by simp) hlr (f1 b (hblk b e)).1)
        ·intro b q y hq hy' hf hb
         by_cases hbc:(ρ r).1=some b
         ·obtain ⟨c,c',ty,fr,e1,e2,e3⟩:=hsame b hbc
          rw [e1,e2]
          exact ObjSame.free hb (f1 b (hblk b hbc)).2 e3
         ·exact .inl (hkeep b (m.foot q y b hy' hf).1 hbc)
        ·rcases hrow with ⟨e1,e2⟩ | ⟨g,e1,e2⟩
         ·exact .inr ⟨e2,e1⟩
         ·refine .inl ⟨g,e1,e2.mono (fun b hb=>⟨hb,by rw [e1];simp⟩),fun b hb => ?_⟩
          rcases hF' b hb.1 with h | h | h
          ·exact (f1 b h).2
          ·exact (s2 b h).2
          ·exact .inl (by have:=m.size;omega)
        ·intro b hb
         rcases hF' b hb.1 with h | h | h
         ·exact ⟨by have:=hFlt b h;omega, .inr ⟨r,_,by simp,hlr,(f1 b h).1⟩⟩
         ·obtain ⟨q,y,e1,e2⟩:=(s2 b h).1
          exact ⟨by have:=hGlt b h;omega, .inr ⟨q,y,by simp [e1],e2⟩⟩
         ·exact ⟨h.2, .inl h.1⟩
        ·obtain ⟨b1,cap'⟩:=bc'
         have hcap:(xs.take n++ys).length≤cap'∧(xs.take n++ys ≠ []→b1≠none)∧(b1=none→cap'=0):=by
          rcases hrow with ⟨e1,e2⟩ | ⟨g,e1,e2⟩
          ·injection e2 with e2 e3
           subst e2 e3
           simp [e1]
          ·obtain ⟨g2,c2,e3,e4,-⟩:=e2.slice_inv
           injection e3 with _ _ e3
           simp only at e1
           subst e1 e3
           exact ⟨e4,by simp,by simp⟩
         have:=VR.newrow (w':=w') (S:=X.S) (nl:=stays nl) hlook hcap.1 hcap.2.1 hcap.2.2 (fun b hb=>stays_ok (ev_sound ht hx) hv hnone hb) (ρ':=fun q=>if q=rt i 0 then (b1,cap') else ρ q) (by simp)
         rw [hzl] at this
         show VR _ _ _ _ (.ref (rt i 0) none te.size 0 (xs.take n++ys).length (stays nl)) _
         rw [hzl]
         exact this
        ·intro q hq
         simp [rids,rid2,rid1] at hq
         subst hq
         exact lab_rt (by omega)
        ·simp [ridsBox]
       ·cases he
      ·cases he
     ·cases he
    ·-- onto a row in a cell
     rename_i r i' j' sz0 n nl
     split at he
     ·rename_i szr xs0 dt hlr
      split at he
      ·rename_i sz' xs hsub
       split at he
       ·rename_i hcond
        split at he
        ·rename_i c0 hc0
         have hok1:needFlat te ys:=by
          unfold appendRes at he
          split at he
          ·injection he with he
           subst he
           exact hok0
          ·cases he
         exact append_nested hT hs hD hd ho hc hargs hat hx hy hlr hsub hcond hc0 hoke u1 u2 hsrc hok1 he
        ·cases he
       ·cases he
      ·cases he
     ·cases he
    ·cases he
   ·cases he
  ·cases he
 ·cases he
end

section
variable {X:Fix} {D:Nat→Prop} {s:St} {a:Act} {w:World} {i:Nat} {o:Oper} {T:Types}
theorem run_store_at {P:Program} {t:TypeId} {ti:TI} {ii:TypeInfo} {d:TypeDesc} {z:Value} (hok:TIok P t ti ii d z) {b p:Nat} {v:Value} {cs:Array Value} {ty:TypeId} {fr:Nat × Nat} (hh:w.heap[b]? = some (.cells cs ty fr)) (hth:Thaw cs fr)
  (hn:v.cells.size=ti.size) (hle:p + ti.size≤cs.size) (h1:∀ u ∈ v.cells.toList,u.oneCell'=true) :
  (Instr.storeAt t (.pointer (some ⟨b,p,none⟩)) v).run P w = .ok () (w.setCells b p v.cells.toList):=by
 have ht:=there_of (w:=w) (o:=p) (n:=ti.size) hh hth hle
 have:=run_storeCells_cells (P:=P) b p v.cells.toList 0 w (fun j hj=>by
  have:=(ht j (by simpa [hn] using hj)).1
  simpa using this) (fun j hj=>by
  have:=(ht j (by simpa [hn] using hj)).2
  simpa using this) h1
 simp only [Nat.add_zero] at this
 simp [Instr.storeAt,Instr.sureAddr,storeVar,hok.run_sizeOf,hn,this]
theorem exec_store {t:TypeId} {x y:Operand} (ho:o.op = .store t x y) {w':World} (h:(Instr.storeAt t (a.eval x) (a.eval y)).run X.P w = .ok () w'):(execOp a.eval o).run X.P w = .ok .skip w':=by
 simp [execOp,ho,h]
theorem VR.cells' {h:Heap} {ρ:Rho} {S:Nat→Prop} {a:AV} {v:Value} (hv:VR w S h ρ a v) {n:Nat} (hone:(∃ cs,a = .agg cs)∨v.cells = #[v]) (hn:(cellsOf a).length=n) :
  v.cells.size=n∧∀ (k:Nat) (x:AV) (u:Value),(cellsOf a)[k]? = some x→v.cells.toList[k]? = some u→VR w S h ρ x u:=by
 rcases hone with ⟨cs,rfl⟩ | h1
 ·obtain ⟨us',rfl,g1,g2⟩:=hv.agg_inv
  exact ⟨by simpa [cellsOf,Value.cells,g1] using hn,fun k x v a1 a2 => .up (.up (g2 k x v a1 (by simpa [Value.cells] using a2)))⟩
 ·by_cases hagg:∃ cs',a = .agg cs'
  ·obtain ⟨cs,rfl⟩:=hagg
   obtain ⟨us',rfl,g1,g2⟩:=hv.agg_inv
   exact ⟨by simpa [cellsOf,Value.cells,g1] using hn,fun k x v a1 a2 => .up (.up (g2 k x v a1 (by simpa [Value.cells] using a2)))⟩
  ·have hc1:cellsOf a = [a]:=by
    cases a<;>first | rfl | exact absurd ⟨_,rfl⟩ hagg
   rw [hc1] at hn ⊢
   rw [h1]
   refine ⟨by simpa using hn,fun k x u a1 a2 => ?_⟩
   cases k with
   | zero=>simp at a1 a2;subst a1 a2;exact hv
   | succ k=>simp at a1
theorem one_of_intakes {h:Heap} {ρ:Rho} {Fr:Rid→Nat→Prop} (m:Mem X h ρ Fr w) {a:AV} {v:Value} (hv:VR w X.S h ρ a v) {vs:List AV} {rs:List Rid} (hi:intakes h (cellsOf a)=some (vs,rs)):(∃ cs,a = .agg cs)∨v.cells = #[v]:=by
 by_cases hagg:∃ cs',a = .agg cs'
 ·exact .inl hagg
 ·right
  have hc1:cellsOf a = [a]:=by
   cases a<;>first | rfl | exact absurd ⟨_,rfl⟩ hagg
  rw [hc1] at hi
  simp only [intakes] at hi
  split at hi
  ·rename_i b q' _ _ hi1 _
   exact (intake_sound m hv hi1).2.2.2
  ·cases hi
theorem store_box (hT:TOk X.P T) (hs:Sim X D s a w) (hD:¬ D i) (hd:∀ d,o.dst=some d→d < a.tmps.size) {t:TypeId} {ox oy:Operand} (ho:o.op = .store t ox oy) {ti:TI} (hti:T t=some ti) {r:Rid} {j:Nat} (hx:s.ev ox=some (.ptr r none 0 j)) {v:AV} (hy:s.ev oy=some v)
  {cs:List AV} (hlr:look r s.h=some (.box cs)) (hc1:(cellsOf v).length=ti.size) (hc2:j + ti.size≤cs.length) (hc3:(cellsOf v).all storable=true) :
  Done X D s a w i o { wr := [(r,some (.box (setCells cs j (cellsOf v))))],rd := [r] }:=by
 obtain ⟨ii,dd,zz,hok⟩:=hT _ _ hti
 obtain ⟨hl,hS,ρ,Fr,m,ht⟩:=hs
 have hvx:=(ev_sound ht hx).ptr_inv
 have hvy:=ev_sound ht hy
 cases hvx with
 | fv hf=>cases hf
 | ptr h1 h2=>
 obtain ⟨g,p,g1,g2⟩:=h1 cs (by simp [getChunk,hlr])
 simp only [ptrAt,hlr] at g1
 obtain ⟨-,-,g1⟩:=g1
 obtain ⟨g',vs,ty,fr,k1,k2,k3,k4,k5,k6,k7,k8⟩:=m.root r _ hlr
 rw [g1] at k1 k4 k7 k8
 injection k1 with k1
 subst k1
 simp only at k4 k7 k8
 obtain ⟨e1,e2⟩:=hvy.cells hc3
 rw [hc1] at e1
 have hrun:=exec_store (X:=X) (a:=a) ho (by
  rw [g2]
  exact run_store_at (P:=X.P) hok (p:=p + j) k2 k3 e1 (by omega) (fun u hu=>by
   obtain ⟨k,hk⟩:=List.mem_iff_getElem?.1 hu
   have hlt:=lt_len hk
   have hlt':k < (cellsOf v).length:=by rw [hc1];simpa [e1] using hlt
   exact (e2 k _ u (List.getElem?_eq_getElem hlt') (by simpa using hk)).2))
 obtain ⟨z1,z2,z3,z4,z5,z6⟩:=setCells_heap (a.eval oy).cells.toList (p + j) k2
 generalize hw':w.setCells g (p + j) (a.eval oy).cells.toList=w' at *
 obtain ⟨s1,s2⟩:=setL_get (a.eval oy).cells.toList vs (p + j)
 have s2':=s2 (by simp [e1];omega)
 obtain ⟨t1,t2⟩:=setCells_get (cellsOf v) cs j (by omega)
 simp only [Array.length_toList,e1] at s2'
 rw [hc1] at t2
 have hlook:∀ q,look q (applyWr [(r,some (.box (setCells cs j (cellsOf v))))] s.h)=if q=r then some (.box (setCells cs j (cellsOf v))) else look q s.h:=fun q=>by
  simp only [applyWr,look_put]
 have hSw:∀ b,X.S b→b < w.heap.size→w'.heap[b]? = w.heap[b]?:=fun b hb hlt=>z2 b (fun e=>(m.foot r _ g hlr k5).2 (e ▸ hb))
 have hcm:∀ q,Compat w s.h ρ w' (applyWr [(r,some (.box (setCells cs j (cellsOf v))))] s.h) ρ q:=by
  intro q
  by_cases hq:q=r
  ·subst hq
   refine ⟨fun p sz ys hg => ?_,fun p k c hg=>⟨?_,fun g2 o2 hp => ?_⟩⟩
   ·simp [getRow,hlook] at hg
   ·simp only [getChunk,hlook,if_true] at hg
    split at hg
    ·exact ⟨cs,by simp [getChunk,hlr]⟩
    ·cases hg
   ·simp only [ptrAt,hlr,hlook,if_true] at hp ⊢
    exact hp
  ·refine Compat.still (by rw [hlook,if_neg hq]) rfl (fun g2 hg2 hsome => ?_)
   obtain ⟨y,hy'⟩:=Option.isSome_iff_exists.1 hsome
   exact z2 g2 (fun e=>hq (m.disj q y r _ g hy' hlr (e ▸ m.block hy' hg2) k5))
 have hrid:∀ c ∈ cellsOf v,∀ q ∈ rid2 c,q ∈ rids v:=by
  intro c hc q hq
  by_cases hagg:∃ cs',v = .agg cs'
  ·obtain ⟨cs',rfl⟩:=hagg
   obtain ⟨us,u1,u2,u3⟩:=hvy.agg_inv
   obtain ⟨k,hk⟩:=List.mem_iff_getElem?.1 hc
   have hlt':k < us.size:=by rw [u2];exact lt_len hk
   have h4:=(u3 k c _ hk (Array.getElem?_eq_getElem hlt')).rids_eq.2
   simp only [rids,rid2,List.mem_flatMap]
   exact ⟨c,hc,h4 ▸ hq⟩
  ·have hc0:cellsOf v = [v]:=by
    cases v<;>first | rfl | exact absurd ⟨_,rfl⟩ hagg
   rw [hc0] at hc hc3
   simp at hc hc3
   subst hc
   rw [(hvy.to_vb (fun cs e=>by subst e;simp [storable] at hc3)).rids_eq]
   exact hq
 refine ⟨.skip,Go.undef,w',hrun, .inr ⟨rfl,rfl⟩,?_⟩
 refine Sim.write (i:=i) hl hS m ht (e:={ wr := [(r,some (.box (setCells cs j (cellsOf v))))],rd := [r] }) (ρ':=ρ) (Fr':=Fr) (fun _ _=>⟨rfl,rfl⟩) z4 z5 z6 (by omega) ?_ ?_ ?_ ?_ ?_ (fun q _ _=>hcm q) hd (.up (.up (.fv .undef))) (by simp [rids,rid2,rid1]) ?_
 ·intro b hb hk
  exact z2 b (fun e=>hk r _ (by simp) hlr (e ▸ k5))
 ·intro b q y hq hy' hf hb
  simp at hq
  subst hq
  have:b=g:=k6 b hf
  subst this
  rw [k2,z1]
  refine .inr ⟨vs,_,ty,fr,rfl,rfl,s1,fun k hk => ?_⟩
  rw [s2' k]
  split
  ·rename_i hr
   rcases k7 (k - p) (by omega) with h | h
   ·omega
   ·rw [show p + (k - p)=k by omega] at h
    exact absurd h hk
  ·rfl
 ·intro q y hq hy'
  simp at hq
  subst hq
  rw [hlook,if_pos rfl] at hy'
  injection hy' with hy'
  subst hy'
  refine ⟨g,_,ty,fr,by rw [g1],z1,fun k hk=>k3 k (by rw [s1] at hk;exact hk),by rw [g1,s1,t1];exact k4,k5,k6,fun k hk=>by rw [t1] at hk;rw [g1];exact k7 k hk,fun k x hk => ?_⟩
  rw [t2] at hk
  rw [g1]
  simp only
  rw [s2']
  split at hk
  ·rename_i hr
   rw [if_pos (by omega)]
   have hlt:k - j < (a.eval oy).cells.size:=by rw [e1];omega
   refine ⟨(a.eval oy).cells[k - j],by simp [show p + k - (p + j)=k - j by omega,hlt],?_⟩
   exact (e2 _ x _ hk (Array.getElem?_eq_getElem hlt)).1.upd hSw (fun q _=>hcm q)
  ·rename_i hr
   rw [if_neg (by omega)]
   obtain ⟨u,u1,u2⟩:=k8 k x hk
   exact ⟨u,u1,u2.upd hSw (fun q _=>hcm q)⟩
 ·intro q y b hq hy' hb
  simp at hq
  subst hq
  exact ⟨by have:=(m.foot q _ b hlr hb).1;omega, .inr ⟨q,_,by simp,hlr,hb⟩⟩
 ·intro q y q' y' b hq hq' _ _ _ _
  simp at hq hq'
  rw [hq,hq']
 ·intro q y hq hy'
  simp at hq
  subst hq
  rw [hlook,if_pos rfl] at hy'
  injection hy' with hy'
  subst hy'
  refine ⟨(hl q (.inr ⟨q,_,hlr, .inl rfl⟩)).mono fun _ h => .inl h,fun q' hq' => ?_⟩
  simp only [ridsBox,List.mem_flatMap] at hq'
  obtain ⟨c,hc,hq'⟩:=hq'
  obtain ⟨k,hk⟩:=List.mem_iff_getElem?.1 hc
  rw [t2] at hk
  split at hk
  ·exact (hl q' (ev_men hy q' (hrid c (List.mem_of_getElem? hk) q' hq'))).mono fun _ h => .inl h
  ·refine (hl q' (.inr ⟨q,_,hlr, .inr ?_⟩)).mono fun _ h => .inl h
   simp only [ridsBox,List.mem_flatMap]
   exact ⟨c,List.mem_of_getElem? hk,hq'⟩
end

end Go.Fw
