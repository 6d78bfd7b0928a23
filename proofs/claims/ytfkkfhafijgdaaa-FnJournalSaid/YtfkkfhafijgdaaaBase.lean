/- The seat's base: its types, its modes. Written by base.py. -/
import Derived.Test.YtfkkfhafijgdaaaFz
import Derived.Test.YtfkkfhafijgdaaaProg
import Derived.KernelRfl
namespace Go.Proofs.Ytfkkfhafijgdaaa
open Go.Fw
set_option linter.unusedVariables false
def rowsT:List (TypeId × TI) := [(2,⟨.int .i64,1,[.int .i64 0]⟩),
  (3,⟨.int .i64,1,[.int .i64 0]⟩),
  (4,⟨.bool,1,[.bool false]⟩),
  (5,⟨.int .u8,1,[.int .u8 0]⟩),
  (9,⟨.str,1,[.str []]⟩),
  (12,⟨.int .u64,1,[.int .u64 0]⟩),
  (21,⟨.int .i32,1,[.int .i32 0]⟩),
  (22,⟨.slice 5,1,[.frz 1 (some true) []]⟩),
  (23,⟨.slice 100,1,[.frz 2 (some true) []]⟩),
  (24,⟨.slice 45,1,[.frz 10 (some true) []]⟩),
  (25,⟨.slice 9,1,[.frz 1 (some true) []]⟩),
  (26,⟨.struct [(0,3),(1,23),(2,24),(3,25)] false,4,[.int .i64 0, .frz 2 (some true) [], .frz 10 (some true) [], .frz 1 (some true) []]⟩),
  (27,⟨.struct [(0,3),(1,23),(2,24),(3,25)] false,4,[.int .i64 0, .frz 2 (some true) [], .frz 10 (some true) [], .frz 1 (some true) []]⟩),
  (29,⟨.slice 93,1,[.frz 4 (some true) []]⟩),
  (30,⟨.struct [(0,27),(4,29)] false,5,[.int .i64 0, .frz 2 (some true) [], .frz 10 (some true) [], .frz 1 (some true) [], .frz 4 (some true) []]⟩),
  (31,⟨.struct [(0,27),(4,29)] false,5,[.int .i64 0, .frz 2 (some true) [], .frz 10 (some true) [], .frz 1 (some true) [], .frz 4 (some true) []]⟩),
  (33,⟨.slice 3,1,[.frz 1 (some true) []]⟩),
  (34,⟨.struct [(0,3),(1,3),(2,33)] false,3,[.int .i64 0, .int .i64 0, .frz 1 (some true) []]⟩),
  (35,⟨.struct [(0,3),(1,3),(2,33)] false,3,[.int .i64 0, .int .i64 0, .frz 1 (some true) []]⟩),
  (36,⟨.slice 35,1,[.frz 3 (some true) []]⟩),
  (43,⟨.slice 155,1,[.frz 3 (some true) []]⟩),
  (44,⟨.struct [(0,3),(1,3),(2,3),(3,3),(4,3),(5,3),(6,3),(7,33),(8,43),(9,43)] false,10,[.int .i64 0, .int .i64 0, .int .i64 0, .int .i64 0, .int .i64 0, .int .i64 0, .int .i64 0, .frz 1 (some true) [], .frz 3 (some true) [], .frz 3 (some true) []]⟩),
  (45,⟨.struct [(0,3),(1,3),(2,3),(3,3),(4,3),(5,3),(6,3),(7,33),(8,43),(9,43)] false,10,[.int .i64 0, .int .i64 0, .int .i64 0, .int .i64 0, .int .i64 0, .int .i64 0, .int .i64 0, .frz 1 (some true) [], .frz 3 (some true) [], .frz 3 (some true) []]⟩),
  (56,⟨.slice 177,1,[.frz 2 (some true) []]⟩),
  (57,⟨.struct [(0,25),(1,56)] false,2,[.frz 1 (some true) [], .frz 2 (some true) []]⟩),
  (58,⟨.struct [(0,25),(1,56)] false,2,[.frz 1 (some true) [], .frz 2 (some true) []]⟩),
  (60,⟨.slice 72,1,[.frz 2 (some true) []]⟩),
  (61,⟨.struct [(0,25),(1,60)] false,2,[.frz 1 (some true) [], .frz 2 (some true) []]⟩),
  (62,⟨.struct [(0,25),(1,60)] false,2,[.frz 1 (some true) [], .frz 2 (some true) []]⟩),
  (71,⟨.struct [(0,3),(1,9)] true,2,[.int .i64 0, .str []]⟩),
  (72,⟨.struct [(0,3),(1,9)] true,2,[.int .i64 0, .str []]⟩),
  (78,⟨.slice 137,1,[.frz 3 (some true) []]⟩),
  (83,⟨.slice 4,1,[.frz 1 (some true) []]⟩),
  (87,⟨.ptr 148,1,[.nilp]⟩),
  (91,⟨.slice 96,1,[.frz 3 (some true) []]⟩),
  (92,⟨.struct [(0,35),(3,91)] false,4,[.int .i64 0, .int .i64 0, .frz 1 (some true) [], .frz 3 (some true) []]⟩),
  (93,⟨.struct [(0,35),(3,91)] false,4,[.int .i64 0, .int .i64 0, .frz 1 (some true) [], .frz 3 (some true) []]⟩),
  (95,⟨.struct [(0,3),(1,3),(2,3)] true,3,[.int .i64 0, .int .i64 0, .int .i64 0]⟩),
  (96,⟨.struct [(0,3),(1,3),(2,3)] true,3,[.int .i64 0, .int .i64 0, .int .i64 0]⟩),
  (99,⟨.struct [(0,3),(1,3)] true,2,[.int .i64 0, .int .i64 0]⟩),
  (100,⟨.struct [(0,3),(1,3)] true,2,[.int .i64 0, .int .i64 0]⟩),
  (108,⟨.other,1,[.unk]⟩),
  (109,⟨.ptr 27,1,[.nilp]⟩),
  (111,⟨.other,1,[.unk]⟩),
  (112,⟨.arr 56 4,56,[.bool false, .bool false, .bool false, .bool false, .bool false, .bool false, .bool false, .bool false, .bool false, .bool false, .bool false, .bool false, .bool false, .bool false, .bool false, .bool false, .bool false, .bool false, .bool false, .bool false, .bool false, .bool false, .bool false, .bool false, .bool false, .bool false, .bool false, .bool false, .bool false, .bool false, .bool false, .bool false, .bool false, .bool false, .bool false, .bool false, .bool false, .bool false, .bool false, .bool false, .bool false, .bool false, .bool false, .bool false, .bool false, .bool false, .bool false, .bool false, .bool false, .bool false, .bool false, .bool false, .bool false, .bool false, .bool false, .bool false]⟩),
  (136,⟨.struct [(0,4),(1,72)] false,3,[.bool false, .int .i64 0, .str []]⟩),
  (137,⟨.struct [(0,4),(1,72)] false,3,[.bool false, .int .i64 0, .str []]⟩),
  (147,⟨.struct [(0,22),(1,3),(2,3)] false,3,[.frz 1 (some true) [], .int .i64 0, .int .i64 0]⟩),
  (148,⟨.struct [(0,22),(1,3),(2,3)] false,3,[.frz 1 (some true) [], .int .i64 0, .int .i64 0]⟩),
  (151,⟨.ptr 31,1,[.nilp]⟩),
  (154,⟨.struct [(0,3),(1,3),(2,3)] true,3,[.int .i64 0, .int .i64 0, .int .i64 0]⟩),
  (155,⟨.struct [(0,3),(1,3),(2,3)] true,3,[.int .i64 0, .int .i64 0, .int .i64 0]⟩),
  (156,⟨.int .u64,1,[.int .u64 0]⟩),
  (159,⟨.ptr 45,1,[.nilp]⟩),
  (166,⟨.ptr 168,1,[.nilp]⟩),
  (167,⟨.struct [(0,166),(1,22)] false,2,[.nilp, .frz 1 (some true) []]⟩),
  (168,⟨.struct [(0,166),(1,22)] false,2,[.nilp, .frz 1 (some true) []]⟩),
  (177,⟨.struct [(0,3),(1,9)] true,2,[.int .i64 0, .str []]⟩),
  (183,⟨.ptr 62,1,[.nilp]⟩),
  (190,⟨.int .u32,1,[.int .u32 0]⟩),
  (193,⟨.int .u64,1,[.int .u64 0]⟩),
  (196,⟨.ptr 5,1,[.nilp]⟩)]
def T:Types:=tab rowsT
@[simp] theorem T2:T 2=some ⟨.int .i64,1,[.int .i64 0]⟩:=rfl
@[simp] theorem T3:T 3=some ⟨.int .i64,1,[.int .i64 0]⟩:=rfl
@[simp] theorem T4:T 4=some ⟨.bool,1,[.bool false]⟩:=rfl
@[simp] theorem T5:T 5=some ⟨.int .u8,1,[.int .u8 0]⟩:=rfl
@[simp] theorem T9:T 9=some ⟨.str,1,[.str []]⟩:=rfl
@[simp] theorem T12:T 12=some ⟨.int .u64,1,[.int .u64 0]⟩:=rfl
@[simp] theorem T21:T 21=some ⟨.int .i32,1,[.int .i32 0]⟩:=rfl
@[simp] theorem T22:T 22=some ⟨.slice 5,1,[.frz 1 (some true) []]⟩:=rfl
@[simp] theorem T23:T 23=some ⟨.slice 100,1,[.frz 2 (some true) []]⟩:=rfl
@[simp] theorem T24:T 24=some ⟨.slice 45,1,[.frz 10 (some true) []]⟩:=rfl
@[simp] theorem T25:T 25=some ⟨.slice 9,1,[.frz 1 (some true) []]⟩:=rfl
@[simp] theorem T26:T 26=some ⟨.struct [(0,3),(1,23),(2,24),(3,25)] false,4,[.int .i64 0, .frz 2 (some true) [], .frz 10 (some true) [], .frz 1 (some true) []]⟩:=rfl
@[simp] theorem T27:T 27=some ⟨.struct [(0,3),(1,23),(2,24),(3,25)] false,4,[.int .i64 0, .frz 2 (some true) [], .frz 10 (some true) [], .frz 1 (some true) []]⟩:=rfl
@[simp] theorem T29:T 29=some ⟨.slice 93,1,[.frz 4 (some true) []]⟩:=rfl
@[simp] theorem T30:T 30=some ⟨.struct [(0,27),(4,29)] false,5,[.int .i64 0, .frz 2 (some true) [], .frz 10 (some true) [], .frz 1 (some true) [], .frz 4 (some true) []]⟩:=rfl
@[simp] theorem T31:T 31=some ⟨.struct [(0,27),(4,29)] false,5,[.int .i64 0, .frz 2 (some true) [], .frz 10 (some true) [], .frz 1 (some true) [], .frz 4 (some true) []]⟩:=rfl
@[simp] theorem T33:T 33=some ⟨.slice 3,1,[.frz 1 (some true) []]⟩:=rfl
@[simp] theorem T34:T 34=some ⟨.struct [(0,3),(1,3),(2,33)] false,3,[.int .i64 0, .int .i64 0, .frz 1 (some true) []]⟩:=rfl
@[simp] theorem T35:T 35=some ⟨.struct [(0,3),(1,3),(2,33)] false,3,[.int .i64 0, .int .i64 0, .frz 1 (some true) []]⟩:=rfl
@[simp] theorem T36:T 36=some ⟨.slice 35,1,[.frz 3 (some true) []]⟩:=rfl
@[simp] theorem T43:T 43=some ⟨.slice 155,1,[.frz 3 (some true) []]⟩:=rfl
@[simp] theorem T44:T 44=some ⟨.struct [(0,3),(1,3),(2,3),(3,3),(4,3),(5,3),(6,3),(7,33),(8,43),(9,43)] false,10,[.int .i64 0, .int .i64 0, .int .i64 0, .int .i64 0, .int .i64 0, .int .i64 0, .int .i64 0, .frz 1 (some true) [], .frz 3 (some true) [], .frz 3 (some true) []]⟩:=rfl
@[simp] theorem T45:T 45=some ⟨.struct [(0,3),(1,3),(2,3),(3,3),(4,3),(5,3),(6,3),(7,33),(8,43),(9,43)] false,10,[.int .i64 0, .int .i64 0, .int .i64 0, .int .i64 0, .int .i64 0, .int .i64 0, .int .i64 0, .frz 1 (some true) [], .frz 3 (some true) [], .frz 3 (some true) []]⟩:=rfl
@[simp] theorem T56:T 56=some ⟨.slice 177,1,[.frz 2 (some true) []]⟩:=rfl
@[simp] theorem T57:T 57=some ⟨.struct [(0,25),(1,56)] false,2,[.frz 1 (some true) [], .frz 2 (some true) []]⟩:=rfl
@[simp] theorem T58:T 58=some ⟨.struct [(0,25),(1,56)] false,2,[.frz 1 (some true) [], .frz 2 (some true) []]⟩:=rfl
@[simp] theorem T60:T 60=some ⟨.slice 72,1,[.frz 2 (some true) []]⟩:=rfl
@[simp] theorem T61:T 61=some ⟨.struct [(0,25),(1,60)] false,2,[.frz 1 (some true) [], .frz 2 (some true) []]⟩:=rfl
@[simp] theorem T62:T 62=some ⟨.struct [(0,25),(1,60)] false,2,[.frz 1 (some true) [], .frz 2 (some true) []]⟩:=rfl
@[simp] theorem T71:T 71=some ⟨.struct [(0,3),(1,9)] true,2,[.int .i64 0, .str []]⟩:=rfl
@[simp] theorem T72:T 72=some ⟨.struct [(0,3),(1,9)] true,2,[.int .i64 0, .str []]⟩:=rfl
@[simp] theorem T78:T 78=some ⟨.slice 137,1,[.frz 3 (some true) []]⟩:=rfl
@[simp] theorem T83:T 83=some ⟨.slice 4,1,[.frz 1 (some true) []]⟩:=rfl
@[simp] theorem T87:T 87=some ⟨.ptr 148,1,[.nilp]⟩:=rfl
@[simp] theorem T91:T 91=some ⟨.slice 96,1,[.frz 3 (some true) []]⟩:=rfl
@[simp] theorem T92:T 92=some ⟨.struct [(0,35),(3,91)] false,4,[.int .i64 0, .int .i64 0, .frz 1 (some true) [], .frz 3 (some true) []]⟩:=rfl
@[simp] theorem T93:T 93=some ⟨.struct [(0,35),(3,91)] false,4,[.int .i64 0, .int .i64 0, .frz 1 (some true) [], .frz 3 (some true) []]⟩:=rfl
@[simp] theorem T95:T 95=some ⟨.struct [(0,3),(1,3),(2,3)] true,3,[.int .i64 0, .int .i64 0, .int .i64 0]⟩:=rfl
@[simp] theorem T96:T 96=some ⟨.struct [(0,3),(1,3),(2,3)] true,3,[.int .i64 0, .int .i64 0, .int .i64 0]⟩:=rfl
@[simp] theorem T99:T 99=some ⟨.struct [(0,3),(1,3)] true,2,[.int .i64 0, .int .i64 0]⟩:=rfl
@[simp] theorem T100:T 100=some ⟨.struct [(0,3),(1,3)] true,2,[.int .i64 0, .int .i64 0]⟩:=rfl
@[simp] theorem T108:T 108=some ⟨.other,1,[.unk]⟩:=rfl
@[simp] theorem T109:T 109=some ⟨.ptr 27,1,[.nilp]⟩:=rfl
@[simp] theorem T111:T 111=some ⟨.other,1,[.unk]⟩:=rfl
@[simp] theorem T112:T 112=some ⟨.arr 56 4,56,[.bool false, .bool false, .bool false, .bool false, .bool false, .bool false, .bool false, .bool false, .bool false, .bool false, .bool false, .bool false, .bool false, .bool false, .bool false, .bool false, .bool false, .bool false, .bool false, .bool false, .bool false, .bool false, .bool false, .bool false, .bool false, .bool false, .bool false, .bool false, .bool false, .bool false, .bool false, .bool false, .bool false, .bool false, .bool false, .bool false, .bool false, .bool false, .bool false, .bool false, .bool false, .bool false, .bool false, .bool false, .bool false, .bool false, .bool false, .bool false, .bool false, .bool false, .bool false, .bool false, .bool false, .bool false, .bool false, .bool false]⟩:=rfl
@[simp] theorem T136:T 136=some ⟨.struct [(0,4),(1,72)] false,3,[.bool false, .int .i64 0, .str []]⟩:=rfl
@[simp] theorem T137:T 137=some ⟨.struct [(0,4),(1,72)] false,3,[.bool false, .int .i64 0, .str []]⟩:=rfl
@[simp] theorem T147:T 147=some ⟨.struct [(0,22),(1,3),(2,3)] false,3,[.frz 1 (some true) [], .int .i64 0, .int .i64 0]⟩:=rfl
@[simp] theorem T148:T 148=some ⟨.struct [(0,22),(1,3),(2,3)] false,3,[.frz 1 (some true) [], .int .i64 0, .int .i64 0]⟩:=rfl
@[simp] theorem T151:T 151=some ⟨.ptr 31,1,[.nilp]⟩:=rfl
@[simp] theorem T154:T 154=some ⟨.struct [(0,3),(1,3),(2,3)] true,3,[.int .i64 0, .int .i64 0, .int .i64 0]⟩:=rfl
@[simp] theorem T155:T 155=some ⟨.struct [(0,3),(1,3),(2,3)] true,3,[.int .i64 0, .int .i64 0, .int .i64 0]⟩:=rfl
@[simp] theorem T156:T 156=some ⟨.int .u64,1,[.int .u64 0]⟩:=rfl
@[simp] theorem T159:T 159=some ⟨.ptr 45,1,[.nilp]⟩:=rfl
@[simp] theorem T166:T 166=some ⟨.ptr 168,1,[.nilp]⟩:=rfl
@[simp] theorem T167:T 167=some ⟨.struct [(0,166),(1,22)] false,2,[.nilp, .frz 1 (some true) []]⟩:=rfl
@[simp] theorem T168:T 168=some ⟨.struct [(0,166),(1,22)] false,2,[.nilp, .frz 1 (some true) []]⟩:=rfl
@[simp] theorem T177:T 177=some ⟨.struct [(0,3),(1,9)] true,2,[.int .i64 0, .str []]⟩:=rfl
@[simp] theorem T183:T 183=some ⟨.ptr 62,1,[.nilp]⟩:=rfl
@[simp] theorem T190:T 190=some ⟨.int .u32,1,[.int .u32 0]⟩:=rfl
@[simp] theorem T193:T 193=some ⟨.int .u64,1,[.int .u64 0]⟩:=rfl
@[simp] theorem T196:T 196=some ⟨.ptr 5,1,[.nilp]⟩:=rfl
theorem tok:TOk Try.prog T:=tabB_ok (by kernel_rfl)
theorem mixed:Try.prog.follows .mixedOrders=true:=by kernel_rfl
def M:Modes:=modes [(32,[(true,0),(false,0)]),(46,[(true,3)]),(51,[(false,4),(false,0)]),(52,[(false,4),(false,0)]),(53,[(false,5),(false,0)]),(59,[(true,3)]),(63,[(true,4),(false,1),(false,1)]),(64,[(true,4),(false,0),(false,0)]),(67,[(false,4),(false,0)]),(68,[(true,4),(false,1),(false,1)]),(69,[(true,4),(false,0),(false,0)]),(71,[(true,4),(false,1)]),(72,[(true,4),(false,0)]),(73,[(true,3),(false,0)]),(74,[(true,4),(false,1),(false,1),(false,1)]),(75,[(true,4),(false,0),(false,0),(false,0)]),(85,[(true,0),(false,0)]),(86,[(true,0),(false,0)]),(89,[(true,3)]),(90,[(true,3)]),(96,[(true,2),(false,0),(false,0)]),(98,[(false,2),(false,0)]),(102,[(true,2),(false,0)]),(103,[(false,0),(false,1)]),(105,[(true,3)]),(107,[(true,3)]),(108,[(true,3),(false,0)]),(109,[(true,3),(false,0)]),(110,[(true,3),(true,0)]),(111,[(true,0),(false,0),(false,0),(false,0),(false,0),(false,0)]),(112,[(true,3)]),(121,[(false,4),(false,0)]),(142,[(true,3)]),(154,[(false,4),(false,0)]),(155,[(false,4)])]
@[simp] theorem M0:M 0 = []:=rfl
@[simp] theorem M1:M 1 = []:=rfl
@[simp] theorem M2:M 2 = []:=rfl
@[simp] theorem M3:M 3 = []:=rfl
@[simp] theorem M4:M 4 = []:=rfl
@[simp] theorem M5:M 5 = []:=rfl
@[simp] theorem M6:M 6 = []:=rfl
@[simp] theorem M7:M 7 = []:=rfl
@[simp] theorem M8:M 8 = []:=rfl
@[simp] theorem M9:M 9 = []:=rfl
@[simp] theorem M10:M 10 = []:=rfl
@[simp] theorem M11:M 11 = []:=rfl
@[simp] theorem M12:M 12 = []:=rfl
@[simp] theorem M13:M 13 = []:=rfl
@[simp] theorem M14:M 14 = []:=rfl
@[simp] theorem M15:M 15 = []:=rfl
@[simp] theorem M16:M 16 = []:=rfl
@[simp] theorem M17:M 17 = []:=rfl
@[simp] theorem M18:M 18 = []:=rfl
@[simp] theorem M19:M 19 = []:=rfl
@[simp] theorem M20:M 20 = []:=rfl
@[simp] theorem M21:M 21 = []:=rfl
@[simp] theorem M22:M 22 = []:=rfl
@[simp] theorem M23:M 23 = []:=rfl
@[simp] theorem M24:M 24 = []:=rfl
@[simp] theorem M25:M 25 = []:=rfl
@[simp] theorem M26:M 26 = []:=rfl
@[simp] theorem M27:M 27 = []:=rfl
@[simp] theorem M28:M 28 = []:=rfl
@[simp] theorem M29:M 29 = []:=rfl
@[simp] theorem M30:M 30 = []:=rfl
@[simp] theorem M31:M 31 = []:=rfl
@[simp] theorem M32:M 32 = [(true,0),(false,0)]:=rfl
@[simp] theorem M33:M 33 = []:=rfl
@[simp] theorem M34:M 34 = []:=rfl
@[simp] theorem M35:M 35 = []:=rfl
@[simp] theorem M36:M 36 = []:=rfl
@[simp] theorem M37:M 37 = []:=rfl
@[simp] theorem M38:M 38 = []:=rfl
@[simp] theorem M39:M 39 = []:=rfl
@[simp] theorem M40:M 40 = []:=rfl
@[simp] theorem M41:M 41 = []:=rfl
@[simp] theorem M42:M 42 = []:=rfl
@[simp] theorem M43:M 43 = []:=rfl
@[simp] theorem M44:M 44 = []:=rfl
@[simp] theorem M45:M 45 = []:=rfl
@[simp] theorem M46:M 46 = [(true,3)]:=rfl
@[simp] theorem M47:M 47 = []:=rfl
@[simp] theorem M48:M 48 = []:=rfl
@[simp] theorem M49:M 49 = []:=rfl
@[simp] theorem M50:M 50 = []:=rfl
@[simp] theorem M51:M 51 = [(false,4),(false,0)]:=rfl
@[simp] theorem M52:M 52 = [(false,4),(false,0)]:=rfl
@[simp] theorem M53:M 53 = [(false,5),(false,0)]:=rfl
@[simp] theorem M54:M 54 = []:=rfl
@[simp] theorem M55:M 55 = []:=rfl
@[simp] theorem M56:M 56 = []:=rfl
@[simp] theorem M57:M 57 = []:=rfl
@[simp] theorem M58:M 58 = []:=rfl
@[simp] theorem M59:M 59 = [(true,3)]:=rfl
@[simp] theorem M60:M 60 = []:=rfl
@[simp] theorem M61:M 61 = []:=rfl
@[simp] theorem M62:M 62 = []:=rfl
@[simp] theorem M63:M 63 = [(true,4),(false,1),(false,1)]:=rfl
@[simp] theorem M64:M 64 = [(true,4),(false,0),(false,0)]:=rfl
@[simp] theorem M65:M 65 = []:=rfl
@[simp] theorem M66:M 66 = []:=rfl
@[simp] theorem M67:M 67 = [(false,4),(false,0)]:=rfl
@[simp] theorem M68:M 68 = [(true,4),(false,1),(false,1)]:=rfl
@[simp] theorem M69:M 69 = [(true,4),(false,0),(false,0)]:=rfl
@[simp] theorem M70:M 70 = []:=rfl
@[simp] theorem M71:M 71 = [(true,4),(false,1)]:=rfl
@[simp] theorem M72:M 72 = [(true,4),(false,0)]:=rfl
@[simp] theorem M73:M 73 = [(true,3),(false,0)]:=rfl
@[simp] theorem M74:M 74 = [(true,4),(false,1),(false,1),(false,1)]:=rfl
@[simp] theorem M75:M 75 = [(true,4),(false,0),(false,0),(false,0)]:=rfl
@[simp] theorem M76:M 76 = []:=rfl
@[simp] theorem M77:M 77 = []:=rfl
@[simp] theorem M78:M 78 = []:=rfl
@[simp] theorem M79:M 79 = []:=rfl
@[simp] theorem M80:M 80 = []:=rfl
@[simp] theorem M81:M 81 = []:=rfl
@[simp] theorem M82:M 82 = []:=rfl
@[simp] theorem M83:M 83 = []:=rfl
@[simp] theorem M84:M 84 = []:=rfl
@[simp] theorem M85:M 85 = [(true,0),(false,0)]:=rfl
@[simp] theorem M86:M 86 = [(true,0),(false,0)]:=rfl
@[simp] theorem M87:M 87 = []:=rfl
@[simp] theorem M88:M 88 = []:=rfl
@[simp] theorem M89:M 89 = [(true,3)]:=rfl
@[simp] theorem M90:M 90 = [(true,3)]:=rfl
@[simp] theorem M91:M 91 = []:=rfl
@[simp] theorem M92:M 92 = []:=rfl
@[simp] theorem M93:M 93 = []:=rfl
@[simp] theorem M94:M 94 = []:=rfl
@[simp] theorem M95:M 95 = []:=rfl
@[simp] theorem M96:M 96 = [(true,2),(false,0),(false,0)]:=rfl
@[simp] theorem M97:M 97 = []:=rfl
@[simp] theorem M98:M 98 = [(false,2),(false,0)]:=rfl
@[simp] theorem M99:M 99 = []:=rfl
@[simp] theorem M100:M 100 = []:=rfl
@[simp] theorem M101:M 101 = []:=rfl
@[simp] theorem M102:M 102 = [(true,2),(false,0)]:=rfl
@[simp] theorem M103:M 103 = [(false,0),(false,1)]:=rfl
@[simp] theorem M104:M 104 = []:=rfl
@[simp] theorem M105:M 105 = [(true,3)]:=rfl
@[simp] theorem M106:M 106 = []:=rfl
@[simp] theorem M107:M 107 = [(true,3)]:=rfl
@[simp] theorem M108:M 108 = [(true,3),(false,0)]:=rfl
@[simp] theorem M109:M 109 = [(true,3),(false,0)]:=rfl
@[simp] theorem M110:M 110 = [(true,3),(true,0)]:=rfl
@[simp] theorem M111:M 111 = [(true,0),(false,0),(false,0),(false,0),(false,0),(false,0)]:=rfl
@[simp] theorem M112:M 112 = [(true,3)]:=rfl
@[simp] theorem M113:M 113 = []:=rfl
@[simp] theorem M114:M 114 = []:=rfl
@[simp] theorem M115:M 115 = []:=rfl
@[simp] theorem M116:M 116 = []:=rfl
@[simp] theorem M117:M 117 = []:=rfl
@[simp] theorem M118:M 118 = []:=rfl
@[simp] theorem M119:M 119 = []:=rfl
@[simp] theorem M120:M 120 = []:=rfl
@[simp] theorem M121:M 121 = [(false,4),(false,0)]:=rfl
@[simp] theorem M122:M 122 = []:=rfl
@[simp] theorem M123:M 123 = []:=rfl
@[simp] theorem M124:M 124 = []:=rfl
@[simp] theorem M125:M 125 = []:=rfl
@[simp] theorem M126:M 126 = []:=rfl
@[simp] theorem M127:M 127 = []:=rfl
@[simp] theorem M128:M 128 = []:=rfl
@[simp] theorem M129:M 129 = []:=rfl
@[simp] theorem M130:M 130 = []:=rfl
@[simp] theorem M131:M 131 = []:=rfl
@[simp] theorem M132:M 132 = []:=rfl
@[simp] theorem M133:M 133 = []:=rfl
@[simp] theorem M134:M 134 = []:=rfl
@[simp] theorem M135:M 135 = []:=rfl
@[simp] theorem M136:M 136 = []:=rfl
@[simp] theorem M137:M 137 = []:=rfl
@[simp] theorem M138:M 138 = []:=rfl
@[simp] theorem M139:M 139 = []:=rfl
@[simp] theorem M140:M 140 = []:=rfl
@[simp] theorem M141:M 141 = []:=rfl
@[simp] theorem M142:M 142 = [(true,3)]:=rfl
@[simp] theorem M143:M 143 = []:=rfl
@[simp] theorem M144:M 144 = []:=rfl
@[simp] theorem M145:M 145 = []:=rfl
@[simp] theorem M146:M 146 = []:=rfl
@[simp] theorem M147:M 147 = []:=rfl
@[simp] theorem M148:M 148 = []:=rfl
@[simp] theorem M149:M 149 = []:=rfl
@[simp] theorem M150:M 150 = []:=rfl
@[simp] theorem M151:M 151 = []:=rfl
@[simp] theorem M152:M 152 = []:=rfl
@[simp] theorem M153:M 153 = []:=rfl
@[simp] theorem M154:M 154 = [(false,4),(false,0)]:=rfl
@[simp] theorem M155:M 155 = [(false,4)]:=rfl
@[simp] theorem M156:M 156 = []:=rfl
@[simp] theorem M157:M 157 = []:=rfl
@[simp] theorem M158:M 158 = []:=rfl
@[simp] theorem M159:M 159 = []:=rfl
@[simp] theorem M160:M 160 = []:=rfl
@[simp] theorem M161:M 161 = []:=rfl
@[simp] theorem M162:M 162 = []:=rfl
@[simp] theorem M163:M 163 = []:=rfl
@[simp] theorem M164:M 164 = []:=rfl
@[simp] theorem M165:M 165 = []:=rfl
@[simp] theorem M166:M 166 = []:=rfl
@[simp] theorem M167:M 167 = []:=rfl
@[simp] theorem M168:M 168 = []:=rfl
@[simp] theorem M169:M 169 = []:=rfl
@[simp] theorem M170:M 170 = []:=rfl
@[simp] theorem M171:M 171 = []:=rfl
@[simp] theorem M172:M 172 = []:=rfl
@[simp] theorem M173:M 173 = []:=rfl
@[simp] theorem M174:M 174 = []:=rfl
@[simp] theorem M175:M 175 = []:=rfl
@[simp] theorem M176:M 176 = []:=rfl
@[simp] theorem M177:M 177 = []:=rfl
@[simp] theorem M178:M 178 = []:=rfl
@[simp] theorem M179:M 179 = []:=rfl
@[simp] theorem M180:M 180 = []:=rfl
@[simp] theorem M181:M 181 = []:=rfl
@[simp] theorem M182:M 182 = []:=rfl
@[simp] theorem M183:M 183 = []:=rfl
@[simp] theorem M184:M 184 = []:=rfl
@[simp] theorem M185:M 185 = []:=rfl
@[simp] theorem M186:M 186 = []:=rfl
@[simp] theorem M187:M 187 = []:=rfl
@[simp] theorem M188:M 188 = []:=rfl
@[simp] theorem M201:M 201 = []:=rfl
@[simp] theorem M202:M 202 = []:=rfl
@[simp] theorem M203:M 203 = []:=rfl
@[simp] theorem M204:M 204 = []:=rfl
@[simp] theorem M205:M 205 = []:=rfl
@[simp] theorem M206:M 206 = []:=rfl
abbrev K:=Con Try.prog
theorem ks:Sound Try.prog K:=con_sound
end Go.Proofs.Ytfkkfhafijgdaaa
