/- The seat's base: its types, its modes. Written by base.py. -/
import Derived.Test.YtgopfdninbknpaaGreatFz
import Derived.Test.YtgopfdninbknpaaGreatProg
import Derived.KernelRfl
namespace Go.Proofs.YtgopfdninbknpaaGreat
open Go.Fw
set_option linter.unusedVariables false
def rowsT:List (TypeId × TI) := [(2,⟨.int .i64,1,[.int .i64 0]⟩),
  (3,⟨.int .i64,1,[.int .i64 0]⟩),
  (4,⟨.bool,1,[.bool false]⟩),
  (5,⟨.int .u8,1,[.int .u8 0]⟩),
  (9,⟨.str,1,[.str []]⟩),
  (12,⟨.int .u64,1,[.int .u64 0]⟩),
  (21,⟨.int .i32,1,[.int .i32 0]⟩),
  (22,⟨.slice 178,1,[.frz 2 (some true) []]⟩),
  (23,⟨.slice 162,1,[.frz 10 (some true) []]⟩),
  (24,⟨.slice 9,1,[.frz 1 (some true) []]⟩),
  (25,⟨.struct [(0,3),(1,22),(2,23),(3,24)] false,4,[.int .i64 0, .frz 2 (some true) [], .frz 10 (some true) [], .frz 1 (some true) []]⟩),
  (26,⟨.struct [(0,3),(1,22),(2,23),(3,24)] false,4,[.int .i64 0, .frz 2 (some true) [], .frz 10 (some true) [], .frz 1 (some true) []]⟩),
  (27,⟨.slice 3,1,[.frz 1 (some true) []]⟩),
  (28,⟨.struct [(0,3),(1,3),(2,27)] false,3,[.int .i64 0, .int .i64 0, .frz 1 (some true) []]⟩),
  (29,⟨.struct [(0,3),(1,3),(2,27)] false,3,[.int .i64 0, .int .i64 0, .frz 1 (some true) []]⟩),
  (32,⟨.slice 164,1,[.frz 2 (some true) []]⟩),
  (33,⟨.slice 109,1,[.frz 10 (some true) []]⟩),
  (34,⟨.struct [(0,3),(1,32),(2,33),(3,24)] false,4,[.int .i64 0, .frz 2 (some true) [], .frz 10 (some true) [], .frz 1 (some true) []]⟩),
  (35,⟨.struct [(0,3),(1,32),(2,33),(3,24)] false,4,[.int .i64 0, .frz 2 (some true) [], .frz 10 (some true) [], .frz 1 (some true) []]⟩),
  (39,⟨.struct [(0,3),(1,3),(2,27)] false,3,[.int .i64 0, .int .i64 0, .frz 1 (some true) []]⟩),
  (57,⟨.slice 210,1,[.frz 4 (some true) []]⟩),
  (58,⟨.struct [(0,26),(4,57)] false,5,[.int .i64 0, .frz 2 (some true) [], .frz 10 (some true) [], .frz 1 (some true) [], .frz 4 (some true) []]⟩),
  (59,⟨.struct [(0,26),(4,57)] false,5,[.int .i64 0, .frz 2 (some true) [], .frz 10 (some true) [], .frz 1 (some true) [], .frz 4 (some true) []]⟩),
  (61,⟨.slice 151,1,[.frz 4 (some true) []]⟩),
  (62,⟨.struct [(0,35),(4,61)] false,5,[.int .i64 0, .frz 2 (some true) [], .frz 10 (some true) [], .frz 1 (some true) [], .frz 4 (some true) []]⟩),
  (63,⟨.struct [(0,35),(4,61)] false,5,[.int .i64 0, .frz 2 (some true) [], .frz 10 (some true) [], .frz 1 (some true) [], .frz 4 (some true) []]⟩),
  (70,⟨.slice 29,1,[.frz 3 (some true) []]⟩),
  (73,⟨.slice 39,1,[.frz 3 (some true) []]⟩),
  (104,⟨.other,1,[.unk]⟩),
  (105,⟨.ptr 35,1,[.nilp]⟩),
  (106,⟨.ptr 109,1,[.nilp]⟩),
  (107,⟨.slice 113,1,[.frz 3 (some true) []]⟩),
  (108,⟨.struct [(0,3),(1,3),(2,3),(3,3),(4,3),(5,3),(6,3),(7,27),(8,107),(9,107)] false,10,[.int .i64 0, .int .i64 0, .int .i64 0, .int .i64 0, .int .i64 0, .int .i64 0, .int .i64 0, .frz 1 (some true) [], .frz 3 (some true) [], .frz 3 (some true) []]⟩),
  (109,⟨.struct [(0,3),(1,3),(2,3),(3,3),(4,3),(5,3),(6,3),(7,27),(8,107),(9,107)] false,10,[.int .i64 0, .int .i64 0, .int .i64 0, .int .i64 0, .int .i64 0, .int .i64 0, .int .i64 0, .frz 1 (some true) [], .frz 3 (some true) [], .frz 3 (some true) []]⟩),
  (112,⟨.struct [(0,3),(1,3),(2,3)] true,3,[.int .i64 0, .int .i64 0, .int .i64 0]⟩),
  (113,⟨.struct [(0,3),(1,3),(2,3)] true,3,[.int .i64 0, .int .i64 0, .int .i64 0]⟩),
  (115,⟨.other,1,[.unk]⟩),
  (128,⟨.struct [(0,3),(1,9),(2,3),(3,4)] true,4,[.int .i64 0, .str [], .int .i64 0, .bool false]⟩),
  (129,⟨.struct [(0,3),(1,9),(2,3),(3,4)] true,4,[.int .i64 0, .str [], .int .i64 0, .bool false]⟩),
  (138,⟨.other,1,[.unk]⟩),
  (140,⟨.other,1,[.unk]⟩),
  (149,⟨.slice 153,1,[.frz 3 (some true) []]⟩),
  (150,⟨.struct [(0,39),(3,149)] false,4,[.int .i64 0, .int .i64 0, .frz 1 (some true) [], .frz 3 (some true) []]⟩),
  (151,⟨.struct [(0,39),(3,149)] false,4,[.int .i64 0, .int .i64 0, .frz 1 (some true) [], .frz 3 (some true) []]⟩),
  (152,⟨.struct [(0,3),(1,3),(2,3)] true,3,[.int .i64 0, .int .i64 0, .int .i64 0]⟩),
  (153,⟨.struct [(0,3),(1,3),(2,3)] true,3,[.int .i64 0, .int .i64 0, .int .i64 0]⟩),
  (160,⟨.slice 246,1,[.frz 3 (some true) []]⟩),
  (161,⟨.struct [(0,3),(1,3),(2,3),(3,3),(4,3),(5,3),(6,3),(7,27),(8,160),(9,160)] false,10,[.int .i64 0, .int .i64 0, .int .i64 0, .int .i64 0, .int .i64 0, .int .i64 0, .int .i64 0, .frz 1 (some true) [], .frz 3 (some true) [], .frz 3 (some true) []]⟩),
  (162,⟨.struct [(0,3),(1,3),(2,3),(3,3),(4,3),(5,3),(6,3),(7,27),(8,160),(9,160)] false,10,[.int .i64 0, .int .i64 0, .int .i64 0, .int .i64 0, .int .i64 0, .int .i64 0, .int .i64 0, .frz 1 (some true) [], .frz 3 (some true) [], .frz 3 (some true) []]⟩),
  (163,⟨.struct [(0,3),(1,3)] true,2,[.int .i64 0, .int .i64 0]⟩),
  (164,⟨.struct [(0,3),(1,3)] true,2,[.int .i64 0, .int .i64 0]⟩),
  (166,⟨.slice 4,1,[.frz 1 (some true) []]⟩),
  (178,⟨.struct [(0,3),(1,3)] true,2,[.int .i64 0, .int .i64 0]⟩),
  (180,⟨.arr 56 4,56,[.bool false, .bool false, .bool false, .bool false, .bool false, .bool false, .bool false, .bool false, .bool false, .bool false, .bool false, .bool false, .bool false, .bool false, .bool false, .bool false, .bool false, .bool false, .bool false, .bool false, .bool false, .bool false, .bool false, .bool false, .bool false, .bool false, .bool false, .bool false, .bool false, .bool false, .bool false, .bool false, .bool false, .bool false, .bool false, .bool false, .bool false, .bool false, .bool false, .bool false, .bool false, .bool false, .bool false, .bool false, .bool false, .bool false, .bool false, .bool false, .bool false, .bool false, .bool false, .bool false, .bool false, .bool false, .bool false, .bool false]⟩),
  (184,⟨.slice 187,1,[.frz 2 (some true) []]⟩),
  (186,⟨.struct [(0,9),(1,3)] true,2,[.str [], .int .i64 0]⟩),
  (187,⟨.struct [(0,9),(1,3)] true,2,[.str [], .int .i64 0]⟩),
  (200,⟨.other,1,[.unk]⟩),
  (208,⟨.slice 254,1,[.frz 3 (some true) []]⟩),
  (209,⟨.struct [(0,29),(3,208)] false,4,[.int .i64 0, .int .i64 0, .frz 1 (some true) [], .frz 3 (some true) []]⟩),
  (210,⟨.struct [(0,29),(3,208)] false,4,[.int .i64 0, .int .i64 0, .frz 1 (some true) [], .frz 3 (some true) []]⟩),
  (218,⟨.ptr 63,1,[.nilp]⟩),
  (219,⟨.ptr 153,1,[.nilp]⟩),
  (235,⟨.slice 5,1,[.frz 1 (some true) []]⟩),
  (246,⟨.struct [(0,3),(1,3),(2,3)] true,3,[.int .i64 0, .int .i64 0, .int .i64 0]⟩),
  (249,⟨.int .u64,1,[.int .u64 0]⟩),
  (254,⟨.struct [(0,3),(1,3),(2,3)] true,3,[.int .i64 0, .int .i64 0, .int .i64 0]⟩),
  (257,⟨.arr 256 4,256,[.bool false, .bool false, .bool false, .bool false, .bool false, .bool false, .bool false, .bool false, .bool false, .bool false, .bool false, .bool false, .bool false, .bool false, .bool false, .bool false, .bool false, .bool false, .bool false, .bool false, .bool false, .bool false, .bool false, .bool false, .bool false, .bool false, .bool false, .bool false, .bool false, .bool false, .bool false, .bool false, .bool false, .bool false, .bool false, .bool false, .bool false, .bool false, .bool false, .bool false, .bool false, .bool false, .bool false, .bool false, .bool false, .bool false, .bool false, .bool false, .bool false, .bool false, .bool false, .bool false, .bool false, .bool false, .bool false, .bool false, .bool false, .bool false, .bool false, .bool false, .bool false, .bool false, .bool false, .bool false, .bool false, .bool false, .bool false, .bool false, .bool false, .bool false, .bool false, .bool false, .bool false, .bool false, .bool false, .bool false, .bool false, .bool false, .bool false, .bool false, .bool false, .bool false, .bool false, .bool false, .bool false, .bool false, .bool false, .bool false, .bool false, .bool false, .bool false, .bool false, .bool false, .bool false, .bool false, .bool false, .bool false, .bool false, .bool false, .bool false, .bool false, .bool false, .bool false, .bool false, .bool false, .bool false, .bool false, .bool false, .bool false, .bool false, .bool false, .bool false, .bool false, .bool false, .bool false, .bool false, .bool false, .bool false, .bool false, .bool false, .bool false, .bool false, .bool false, .bool false, .bool false, .bool false, .bool false, .bool false, .bool false, .bool false, .bool false, .bool false, .bool false, .bool false, .bool false, .bool false, .bool false, .bool false, .bool false, .bool false, .bool false, .bool false, .bool false, .bool false, .bool false, .bool false, .bool false, .bool false, .bool false, .bool false, .bool false, .bool false, .bool false, .bool false, .bool false, .bool false, .bool false, .bool false, .bool false, .bool false, .bool false, .bool false, .bool false, .bool false, .bool false, .bool false, .bool false, .bool false, .bool false, .bool false, .bool false, .bool false, .bool false, .bool false, .bool false, .bool false, .bool false, .bool false, .bool false, .bool false, .bool false, .bool false, .bool false, .bool false, .bool false, .bool false, .bool false, .bool false, .bool false, .bool false, .bool false, .bool false, .bool false, .bool false, .bool false, .bool false, .bool false, .bool false, .bool false, .bool false, .bool false, .bool false, .bool false, .bool false, .bool false, .bool false, .bool false, .bool false, .bool false, .bool false, .bool false, .bool false, .bool false, .bool false, .bool false, .bool false, .bool false, .bool false, .bool false, .bool false, .bool false, .bool false, .bool false, .bool false, .bool false, .bool false, .bool false, .bool false, .bool false, .bool false, .bool false, .bool false, .bool false, .bool false, .bool false, .bool false, .bool false, .bool false, .bool false, .bool false, .bool false, .bool false, .bool false, .bool false, .bool false, .bool false, .bool false, .bool false, .bool false, .bool false, .bool false, .bool false, .bool false, .bool false, .bool false, .bool false]⟩),
  (258,⟨.arr 256 4,256,[.bool false, .bool false, .bool false, .bool false, .bool false, .bool false, .bool false, .bool false, .bool false, .bool false, .bool false, .bool false, .bool false, .bool false, .bool false, .bool false, .bool false, .bool false, .bool false, .bool false, .bool false, .bool false, .bool false, .bool false, .bool false, .bool false, .bool false, .bool false, .bool false, .bool false, .bool false, .bool false, .bool false, .bool false, .bool false, .bool false, .bool false, .bool false, .bool false, .bool false, .bool false, .bool false, .bool false, .bool false, .bool false, .bool false, .bool false, .bool false, .bool false, .bool false, .bool false, .bool false, .bool false, .bool false, .bool false, .bool false, .bool false, .bool false, .bool false, .bool false, .bool false, .bool false, .bool false, .bool false, .bool false, .bool false, .bool false, .bool false, .bool false, .bool false, .bool false, .bool false, .bool false, .bool false, .bool false, .bool false, .bool false, .bool false, .bool false, .bool false, .bool false, .bool false, .bool false, .bool false, .bool false, .bool false, .bool false, .bool false, .bool false, .bool false, .bool false, .bool false, .bool false, .bool false, .bool false, .bool false, .bool false, .bool false, .bool false, .bool false, .bool false, .bool false, .bool false, .bool false, .bool false, .bool false, .bool false, .bool false, .bool false, .bool false, .bool false, .bool false, .bool false, .bool false, .bool false, .bool false, .bool false, .bool false, .bool false, .bool false, .bool false, .bool false, .bool false, .bool false, .bool false, .bool false, .bool false, .bool false, .bool false, .bool false, .bool false, .bool false, .bool false, .bool false, .bool false, .bool false, .bool false, .bool false, .bool false, .bool false, .bool false, .bool false, .bool false, .bool false, .bool false, .bool false, .bool false, .bool false, .bool false, .bool false, .bool false, .bool false, .bool false, .bool false, .bool false, .bool false, .bool false, .bool false, .bool false, .bool false, .bool false, .bool false, .bool false, .bool false, .bool false, .bool false, .bool false, .bool false, .bool false, .bool false, .bool false, .bool false, .bool false, .bool false, .bool false, .bool false, .bool false, .bool false, .bool false, .bool false, .bool false, .bool false, .bool false, .bool false, .bool false, .bool false, .bool false, .bool false, .bool false, .bool false, .bool false, .bool false, .bool false, .bool false, .bool false, .bool false, .bool false, .bool false, .bool false, .bool false, .bool false, .bool false, .bool false, .bool false, .bool false, .bool false, .bool false, .bool false, .bool false, .bool false, .bool false, .bool false, .bool false, .bool false, .bool false, .bool false, .bool false, .bool false, .bool false, .bool false, .bool false, .bool false, .bool false, .bool false, .bool false, .bool false, .bool false, .bool false, .bool false, .bool false, .bool false, .bool false, .bool false, .bool false, .bool false, .bool false, .bool false, .bool false, .bool false, .bool false, .bool false, .bool false, .bool false, .bool false, .bool false, .bool false, .bool false, .bool false, .bool false, .bool false, .bool false, .bool false, .bool false, .bool false, .bool false, .bool false]⟩),
  (264,⟨.ptr 266,1,[.nilp]⟩),
  (265,⟨.struct [(0,264),(1,235)] false,2,[.nilp, .frz 1 (some true) []]⟩),
  (266,⟨.struct [(0,264),(1,235)] false,2,[.nilp, .frz 1 (some true) []]⟩),
  (275,⟨.ptr 258,1,[.nilp]⟩),
  (276,⟨.int .u32,1,[.int .u32 0]⟩),
  (279,⟨.int .u64,1,[.int .u64 0]⟩),
  (282,⟨.ptr 5,1,[.nilp]⟩)]
def T:Types:=tab rowsT
@[simp] theorem T2:T 2=some ⟨.int .i64,1,[.int .i64 0]⟩:=rfl
@[simp] theorem T3:T 3=some ⟨.int .i64,1,[.int .i64 0]⟩:=rfl
@[simp] theorem T4:T 4=some ⟨.bool,1,[.bool false]⟩:=rfl
@[simp] theorem T5:T 5=some ⟨.int .u8,1,[.int .u8 0]⟩:=rfl
@[simp] theorem T9:T 9=some ⟨.str,1,[.str []]⟩:=rfl
@[simp] theorem T12:T 12=some ⟨.int .u64,1,[.int .u64 0]⟩:=rfl
@[simp] theorem T21:T 21=some ⟨.int .i32,1,[.int .i32 0]⟩:=rfl
@[simp] theorem T22:T 22=some ⟨.slice 178,1,[.frz 2 (some true) []]⟩:=rfl
@[simp] theorem T23:T 23=some ⟨.slice 162,1,[.frz 10 (some true) []]⟩:=rfl
@[simp] theorem T24:T 24=some ⟨.slice 9,1,[.frz 1 (some true) []]⟩:=rfl
@[simp] theorem T25:T 25=some ⟨.struct [(0,3),(1,22),(2,23),(3,24)] false,4,[.int .i64 0, .frz 2 (some true) [], .frz 10 (some true) [], .frz 1 (some true) []]⟩:=rfl
@[simp] theorem T26:T 26=some ⟨.struct [(0,3),(1,22),(2,23),(3,24)] false,4,[.int .i64 0, .frz 2 (some true) [], .frz 10 (some true) [], .frz 1 (some true) []]⟩:=rfl
@[simp] theorem T27:T 27=some ⟨.slice 3,1,[.frz 1 (some true) []]⟩:=rfl
@[simp] theorem T28:T 28=some ⟨.struct [(0,3),(1,3),(2,27)] false,3,[.int .i64 0, .int .i64 0, .frz 1 (some true) []]⟩:=rfl
@[simp] theorem T29:T 29=some ⟨.struct [(0,3),(1,3),(2,27)] false,3,[.int .i64 0, .int .i64 0, .frz 1 (some true) []]⟩:=rfl
@[simp] theorem T32:T 32=some ⟨.slice 164,1,[.frz 2 (some true) []]⟩:=rfl
@[simp] theorem T33:T 33=some ⟨.slice 109,1,[.frz 10 (some true) []]⟩:=rfl
@[simp] theorem T34:T 34=some ⟨.struct [(0,3),(1,32),(2,33),(3,24)] false,4,[.int .i64 0, .frz 2 (some true) [], .frz 10 (some true) [], .frz 1 (some true) []]⟩:=rfl
@[simp] theorem T35:T 35=some ⟨.struct [(0,3),(1,32),(2,33),(3,24)] false,4,[.int .i64 0, .frz 2 (some true) [], .frz 10 (some true) [], .frz 1 (some true) []]⟩:=rfl
@[simp] theorem T39:T 39=some ⟨.struct [(0,3),(1,3),(2,27)] false,3,[.int .i64 0, .int .i64 0, .frz 1 (some true) []]⟩:=rfl
@[simp] theorem T57:T 57=some ⟨.slice 210,1,[.frz 4 (some true) []]⟩:=rfl
@[simp] theorem T58:T 58=some ⟨.struct [(0,26),(4,57)] false,5,[.int .i64 0, .frz 2 (some true) [], .frz 10 (some true) [], .frz 1 (some true) [], .frz 4 (some true) []]⟩:=rfl
@[simp] theorem T59:T 59=some ⟨.struct [(0,26),(4,57)] false,5,[.int .i64 0, .frz 2 (some true) [], .frz 10 (some true) [], .frz 1 (some true) [], .frz 4 (some true) []]⟩:=rfl
@[simp] theorem T61:T 61=some ⟨.slice 151,1,[.frz 4 (some true) []]⟩:=rfl
@[simp] theorem T62:T 62=some ⟨.struct [(0,35),(4,61)] false,5,[.int .i64 0, .frz 2 (some true) [], .frz 10 (some true) [], .frz 1 (some true) [], .frz 4 (some true) []]⟩:=rfl
@[simp] theorem T63:T 63=some ⟨.struct [(0,35),(4,61)] false,5,[.int .i64 0, .frz 2 (some true) [], .frz 10 (some true) [], .frz 1 (some true) [], .frz 4 (some true) []]⟩:=rfl
@[simp] theorem T70:T 70=some ⟨.slice 29,1,[.frz 3 (some true) []]⟩:=rfl
@[simp] theorem T73:T 73=some ⟨.slice 39,1,[.frz 3 (some true) []]⟩:=rfl
@[simp] theorem T104:T 104=some ⟨.other,1,[.unk]⟩:=rfl
@[simp] theorem T105:T 105=some ⟨.ptr 35,1,[.nilp]⟩:=rfl
@[simp] theorem T106:T 106=some ⟨.ptr 109,1,[.nilp]⟩:=rfl
@[simp] theorem T107:T 107=some ⟨.slice 113,1,[.frz 3 (some true) []]⟩:=rfl
@[simp] theorem T108:T 108=some ⟨.struct [(0,3),(1,3),(2,3),(3,3),(4,3),(5,3),(6,3),(7,27),(8,107),(9,107)] false,10,[.int .i64 0, .int .i64 0, .int .i64 0, .int .i64 0, .int .i64 0, .int .i64 0, .int .i64 0, .frz 1 (some true) [], .frz 3 (some true) [], .frz 3 (some true) []]⟩:=rfl
@[simp] theorem T109:T 109=some ⟨.struct [(0,3),(1,3),(2,3),(3,3),(4,3),(5,3),(6,3),(7,27),(8,107),(9,107)] false,10,[.int .i64 0, .int .i64 0, .int .i64 0, .int .i64 0, .int .i64 0, .int .i64 0, .int .i64 0, .frz 1 (some true) [], .frz 3 (some true) [], .frz 3 (some true) []]⟩:=rfl
@[simp] theorem T112:T 112=some ⟨.struct [(0,3),(1,3),(2,3)] true,3,[.int .i64 0, .int .i64 0, .int .i64 0]⟩:=rfl
@[simp] theorem T113:T 113=some ⟨.struct [(0,3),(1,3),(2,3)] true,3,[.int .i64 0, .int .i64 0, .int .i64 0]⟩:=rfl
@[simp] theorem T115:T 115=some ⟨.other,1,[.unk]⟩:=rfl
@[simp] theorem T128:T 128=some ⟨.struct [(0,3),(1,9),(2,3),(3,4)] true,4,[.int .i64 0, .str [], .int .i64 0, .bool false]⟩:=rfl
@[simp] theorem T129:T 129=some ⟨.struct [(0,3),(1,9),(2,3),(3,4)] true,4,[.int .i64 0, .str [], .int .i64 0, .bool false]⟩:=rfl
@[simp] theorem T138:T 138=some ⟨.other,1,[.unk]⟩:=rfl
@[simp] theorem T140:T 140=some ⟨.other,1,[.unk]⟩:=rfl
@[simp] theorem T149:T 149=some ⟨.slice 153,1,[.frz 3 (some true) []]⟩:=rfl
@[simp] theorem T150:T 150=some ⟨.struct [(0,39),(3,149)] false,4,[.int .i64 0, .int .i64 0, .frz 1 (some true) [], .frz 3 (some true) []]⟩:=rfl
@[simp] theorem T151:T 151=some ⟨.struct [(0,39),(3,149)] false,4,[.int .i64 0, .int .i64 0, .frz 1 (some true) [], .frz 3 (some true) []]⟩:=rfl
@[simp] theorem T152:T 152=some ⟨.struct [(0,3),(1,3),(2,3)] true,3,[.int .i64 0, .int .i64 0, .int .i64 0]⟩:=rfl
@[simp] theorem T153:T 153=some ⟨.struct [(0,3),(1,3),(2,3)] true,3,[.int .i64 0, .int .i64 0, .int .i64 0]⟩:=rfl
@[simp] theorem T160:T 160=some ⟨.slice 246,1,[.frz 3 (some true) []]⟩:=rfl
@[simp] theorem T161:T 161=some ⟨.struct [(0,3),(1,3),(2,3),(3,3),(4,3),(5,3),(6,3),(7,27),(8,160),(9,160)] false,10,[.int .i64 0, .int .i64 0, .int .i64 0, .int .i64 0, .int .i64 0, .int .i64 0, .int .i64 0, .frz 1 (some true) [], .frz 3 (some true) [], .frz 3 (some true) []]⟩:=rfl
@[simp] theorem T162:T 162=some ⟨.struct [(0,3),(1,3),(2,3),(3,3),(4,3),(5,3),(6,3),(7,27),(8,160),(9,160)] false,10,[.int .i64 0, .int .i64 0, .int .i64 0, .int .i64 0, .int .i64 0, .int .i64 0, .int .i64 0, .frz 1 (some true) [], .frz 3 (some true) [], .frz 3 (some true) []]⟩:=rfl
@[simp] theorem T163:T 163=some ⟨.struct [(0,3),(1,3)] true,2,[.int .i64 0, .int .i64 0]⟩:=rfl
@[simp] theorem T164:T 164=some ⟨.struct [(0,3),(1,3)] true,2,[.int .i64 0, .int .i64 0]⟩:=rfl
@[simp] theorem T166:T 166=some ⟨.slice 4,1,[.frz 1 (some true) []]⟩:=rfl
@[simp] theorem T178:T 178=some ⟨.struct [(0,3),(1,3)] true,2,[.int .i64 0, .int .i64 0]⟩:=rfl
@[simp] theorem T180:T 180=some ⟨.arr 56 4,56,[.bool false, .bool false, .bool false, .bool false, .bool false, .bool false, .bool false, .bool false, .bool false, .bool false, .bool false, .bool false, .bool false, .bool false, .bool false, .bool false, .bool false, .bool false, .bool false, .bool false, .bool false, .bool false, .bool false, .bool false, .bool false, .bool false, .bool false, .bool false, .bool false, .bool false, .bool false, .bool false, .bool false, .bool false, .bool false, .bool false, .bool false, .bool false, .bool false, .bool false, .bool false, .bool false, .bool false, .bool false, .bool false, .bool false, .bool false, .bool false, .bool false, .bool false, .bool false, .bool false, .bool false, .bool false, .bool false, .bool false]⟩:=rfl
@[simp] theorem T184:T 184=some ⟨.slice 187,1,[.frz 2 (some true) []]⟩:=rfl
@[simp] theorem T186:T 186=some ⟨.struct [(0,9),(1,3)] true,2,[.str [], .int .i64 0]⟩:=rfl
@[simp] theorem T187:T 187=some ⟨.struct [(0,9),(1,3)] true,2,[.str [], .int .i64 0]⟩:=rfl
@[simp] theorem T200:T 200=some ⟨.other,1,[.unk]⟩:=rfl
@[simp] theorem T208:T 208=some ⟨.slice 254,1,[.frz 3 (some true) []]⟩:=rfl
@[simp] theorem T209:T 209=some ⟨.struct [(0,29),(3,208)] false,4,[.int .i64 0, .int .i64 0, .frz 1 (some true) [], .frz 3 (some true) []]⟩:=rfl
@[simp] theorem T210:T 210=some ⟨.struct [(0,29),(3,208)] false,4,[.int .i64 0, .int .i64 0, .frz 1 (some true) [], .frz 3 (some true) []]⟩:=rfl
@[simp] theorem T218:T 218=some ⟨.ptr 63,1,[.nilp]⟩:=rfl
@[simp] theorem T219:T 219=some ⟨.ptr 153,1,[.nilp]⟩:=rfl
@[simp] theorem T235:T 235=some ⟨.slice 5,1,[.frz 1 (some true) []]⟩:=rfl
@[simp] theorem T246:T 246=some ⟨.struct [(0,3),(1,3),(2,3)] true,3,[.int .i64 0, .int .i64 0, .int .i64 0]⟩:=rfl
@[simp] theorem T249:T 249=some ⟨.int .u64,1,[.int .u64 0]⟩:=rfl
@[simp] theorem T254:T 254=some ⟨.struct [(0,3),(1,3),(2,3)] true,3,[.int .i64 0, .int .i64 0, .int .i64 0]⟩:=rfl
@[simp] theorem T257:T 257=some ⟨.arr 256 4,256,[.bool false, .bool false, .bool false, .bool false, .bool false, .bool false, .bool false, .bool false, .bool false, .bool false, .bool false, .bool false, .bool false, .bool false, .bool false, .bool false, .bool false, .bool false, .bool false, .bool false, .bool false, .bool false, .bool false, .bool false, .bool false, .bool false, .bool false, .bool false, .bool false, .bool false, .bool false, .bool false, .bool false, .bool false, .bool false, .bool false, .bool false, .bool false, .bool false, .bool false, .bool false, .bool false, .bool false, .bool false, .bool false, .bool false, .bool false, .bool false, .bool false, .bool false, .bool false, .bool false, .bool false, .bool false, .bool false, .bool false, .bool false, .bool false, .bool false, .bool false, .bool false, .bool false, .bool false, .bool false, .bool false, .bool false, .bool false, .bool false, .bool false, .bool false, .bool false, .bool false, .bool false, .bool false, .bool false, .bool false, .bool false, .bool false, .bool false, .bool false, .bool false, .bool false, .bool false, .bool false, .bool false, .bool false, .bool false, .bool false, .bool false, .bool false, .bool false, .bool false, .bool false, .bool false, .bool false, .bool false, .bool false, .bool false, .bool false, .bool false, .bool false, .bool false, .bool false, .bool false, .bool false, .bool false, .bool false, .bool false, .bool false, .bool false, .bool false, .bool false, .bool false, .bool false, .bool false, .bool false, .bool false, .bool false, .bool false, .bool false, .bool false, .bool false, .bool false, .bool false, .bool false, .bool false, .bool false, .bool false, .bool false, .bool false, .bool false, .bool false, .bool false, .bool false, .bool false, .bool false, .bool false, .bool false, .bool false, .bool false, .bool false, .bool false, .bool false, .bool false, .bool false, .bool false, .bool false, .bool false, .bool false, .bool false, .bool false, .bool false, .bool false, .bool false, .bool false, .bool false, .bool false, .bool false, .bool false, .bool false, .bool false, .bool false, .bool false, .bool false, .bool false, .bool false, .bool false, .bool false, .bool false, .bool false, .bool false, .bool false, .bool false, .bool false, .bool false, .bool false, .bool false, .bool false, .bool false, .bool false, .bool false, .bool false, .bool false, .bool false, .bool false, .bool false, .bool false, .bool false, .bool false, .bool false, .bool false, .bool false, .bool false, .bool false, .bool false, .bool false, .bool false, .bool false, .bool false, .bool false, .bool false, .bool false, .bool false, .bool false, .bool false, .bool false, .bool false, .bool false, .bool false, .bool false, .bool false, .bool false, .bool false, .bool false, .bool false, .bool false, .bool false, .bool false, .bool false, .bool false, .bool false, .bool false, .bool false, .bool false, .bool false, .bool false, .bool false, .bool false, .bool false, .bool false, .bool false, .bool false, .bool false, .bool false, .bool false, .bool false, .bool false, .bool false, .bool false, .bool false, .bool false, .bool false, .bool false, .bool false, .bool false, .bool false, .bool false, .bool false, .bool false, .bool false, .bool false, .bool false, .bool false, .bool false, .bool false, .bool false]⟩:=rfl
@[simp] theorem T258:T 258=some ⟨.arr 256 4,256,[.bool false, .bool false, .bool false, .bool false, .bool false, .bool false, .bool false, .bool false, .bool false, .bool false, .bool false, .bool false, .bool false, .bool false, .bool false, .bool false, .bool false, .bool false, .bool false, .bool false, .bool false, .bool false, .bool false, .bool false, .bool false, .bool false, .bool false, .bool false, .bool false, .bool false, .bool false, .bool false, .bool false, .bool false, .bool false, .bool false, .bool false, .bool false, .bool false, .bool false, .bool false, .bool false, .bool false, .bool false, .bool false, .bool false, .bool false, .bool false, .bool false, .bool false, .bool false, .bool false, .bool false, .bool false, .bool false, .bool false, .bool false, .bool false, .bool false, .bool false, .bool false, .bool false, .bool false, .bool false, .bool false, .bool false, .bool false, .bool false, .bool false, .bool false, .bool false, .bool false, .bool false, .bool false, .bool false, .bool false, .bool false, .bool false, .bool false, .bool false, .bool false, .bool false, .bool false, .bool false, .bool false, .bool false, .bool false, .bool false, .bool false, .bool false, .bool false, .bool false, .bool false, .bool false, .bool false, .bool false, .bool false, .bool false, .bool false, .bool false, .bool false, .bool false, .bool false, .bool false, .bool false, .bool false, .bool false, .bool false, .bool false, .bool false, .bool false, .bool false, .bool false, .bool false, .bool false, .bool false, .bool false, .bool false, .bool false, .bool false, .bool false, .bool false, .bool false, .bool false, .bool false, .bool false, .bool false, .bool false, .bool false, .bool false, .bool false, .bool false, .bool false, .bool false, .bool false, .bool false, .bool false, .bool false, .bool false, .bool false, .bool false, .bool false, .bool false, .bool false, .bool false, .bool false, .bool false, .bool false, .bool false, .bool false, .bool false, .bool false, .bool false, .bool false, .bool false, .bool false, .bool false, .bool false, .bool false, .bool false, .bool false, .bool false, .bool false, .bool false, .bool false, .bool false, .bool false, .bool false, .bool false, .bool false, .bool false, .bool false, .bool false, .bool false, .bool false, .bool false, .bool false, .bool false, .bool false, .bool false, .bool false, .bool false, .bool false, .bool false, .bool false, .bool false, .bool false, .bool false, .bool false, .bool false, .bool false, .bool false, .bool false, .bool false, .bool false, .bool false, .bool false, .bool false, .bool false, .bool false, .bool false, .bool false, .bool false, .bool false, .bool false, .bool false, .bool false, .bool false, .bool false, .bool false, .bool false, .bool false, .bool false, .bool false, .bool false, .bool false, .bool false, .bool false, .bool false, .bool false, .bool false, .bool false, .bool false, .bool false, .bool false, .bool false, .bool false, .bool false, .bool false, .bool false, .bool false, .bool false, .bool false, .bool false, .bool false, .bool false, .bool false, .bool false, .bool false, .bool false, .bool false, .bool false, .bool false, .bool false, .bool false, .bool false, .bool false, .bool false, .bool false, .bool false, .bool false, .bool false, .bool false, .bool false, .bool false, .bool false]⟩:=rfl
@[simp] theorem T264:T 264=some ⟨.ptr 266,1,[.nilp]⟩:=rfl
@[simp] theorem T265:T 265=some ⟨.struct [(0,264),(1,235)] false,2,[.nilp, .frz 1 (some true) []]⟩:=rfl
@[simp] theorem T266:T 266=some ⟨.struct [(0,264),(1,235)] false,2,[.nilp, .frz 1 (some true) []]⟩:=rfl
@[simp] theorem T275:T 275=some ⟨.ptr 258,1,[.nilp]⟩:=rfl
@[simp] theorem T276:T 276=some ⟨.int .u32,1,[.int .u32 0]⟩:=rfl
@[simp] theorem T279:T 279=some ⟨.int .u64,1,[.int .u64 0]⟩:=rfl
@[simp] theorem T282:T 282=some ⟨.ptr 5,1,[.nilp]⟩:=rfl
theorem tok:TOk Tryz.prog T:=tabB_ok (by kernel_rfl)
theorem mixed:Tryz.prog.follows .mixedOrders=true:=by kernel_rfl
def M:Modes:=modes [(23,[(true,0),(false,0)]),(24,[(true,0),(false,0)]),(34,[(true,0),(false,0)]),(46,[(true,0),(false,0)]),(53,[(true,0),(false,0)]),(79,[(false,4),(false,0),(false,0)]),(80,[(false,4),(false,0),(false,0),(false,0)]),(81,[(false,4),(false,0)]),(83,[(true,4),(false,1),(false,3),(false,1),(false,1),(false,1),(false,1)]),(84,[(false,4),(false,0),(false,0)]),(86,[(true,4),(false,0),(false,0),(false,0)]),(90,[(true,0),(false,0)]),(91,[(true,0),(false,0)]),(92,[(true,0),(false,0)]),(105,[(false,4),(false,0),(false,0),(false,0)]),(106,[(true,4),(false,4),(false,1),(false,4)]),(107,[(true,4),(false,0),(false,0),(false,0),(false,0)]),(108,[(true,4),(false,0),(false,0)]),(114,[(true,4),(false,0),(false,3),(false,1),(false,1)]),(117,[(true,4),(false,0),(false,0)]),(125,[(true,0),(false,0)]),(133,[(true,5),(false,0),(false,0)]),(137,[(true,0),(false,0)]),(139,[(true,5),(false,0),(false,0),(false,0),(false,0)]),(160,[(false,4),(false,0),(false,0)]),(161,[(false,4),(false,0)]),(162,[(false,4),(false,0)]),(163,[(false,4),(false,0)]),(165,[(false,4),(false,0)]),(167,[(true,4),(false,0),(false,0),(false,0)]),(171,[(true,0),(false,0)]),(178,[(true,0),(false,0),(false,0)]),(179,[(false,4),(false,0),(false,0),(false,0),(false,0)]),(180,[(false,0),(false,1),(false,1)]),(181,[(true,4),(false,1),(false,1),(false,1),(false,1)]),(184,[(false,0),(false,3),(false,1)]),(186,[(false,4),(false,0),(false,0)]),(188,[(true,4),(false,0)]),(189,[(true,4),(false,0),(false,0)]),(194,[(true,4),(false,1),(false,1)]),(195,[(false,4),(false,0)]),(202,[(false,5),(false,0)]),(204,[(true,0),(false,0)]),(210,[(true,5),(false,0),(false,0)]),(229,[(false,4),(false,0)]),(231,[(false,0),(false,1)]),(247,[(false,4),(false,0)]),(251,[(false,4),(false,0)]),(252,[(false,4)])]
@[simp] theorem M0:M 0 = []:=rfl
@[simp] theorem M1:M 1 = []:=rfl
@[simp] theorem M2:M 2 = []:=rfl
@[simp] theorem M3:M 3 = []:=rfl
@[simp] theorem M4:M 4 = []:=rfl
@[simp] theorem M5:M 5 = []:=rfl
@[simp] theorem M6:M 6 = []:=rfl
@[simp] theorem M7:M 7 = []:=rfl
@[simp] theorem M8:M 8 = []:=rfl
@[simp] theorem M9:M 9 = []:=rfl
@[simp] theorem M10:M 10 = []:=rfl
@[simp] theorem M11:M 11 = []:=rfl
@[simp] theorem M12:M 12 = []:=rfl
@[simp] theorem M13:M 13 = []:=rfl
@[simp] theorem M14:M 14 = []:=rfl
@[simp] theorem M15:M 15 = []:=rfl
@[simp] theorem M16:M 16 = []:=rfl
@[simp] theorem M17:M 17 = []:=rfl
@[simp] theorem M18:M 18 = []:=rfl
@[simp] theorem M19:M 19 = []:=rfl
@[simp] theorem M20:M 20 = []:=rfl
@[simp] theorem M21:M 21 = []:=rfl
@[simp] theorem M22:M 22 = []:=rfl
@[simp] theorem M23:M 23 = [(true,0),(false,0)]:=rfl
@[simp] theorem M24:M 24 = [(true,0),(false,0)]:=rfl
@[simp] theorem M25:M 25 = []:=rfl
@[simp] theorem M26:M 26 = []:=rfl
@[simp] theorem M27:M 27 = []:=rfl
@[simp] theorem M28:M 28 = []:=rfl
@[simp] theorem M29:M 29 = []:=rfl
@[simp] theorem M30:M 30 = []:=rfl
@[simp] theorem M31:M 31 = []:=rfl
@[simp] theorem M32:M 32 = []:=rfl
@[simp] theorem M33:M 33 = []:=rfl
@[simp] theorem M34:M 34 = [(true,0),(false,0)]:=rfl
@[simp] theorem M35:M 35 = []:=rfl
@[simp] theorem M36:M 36 = []:=rfl
@[simp] theorem M37:M 37 = []:=rfl
@[simp] theorem M38:M 38 = []:=rfl
@[simp] theorem M39:M 39 = []:=rfl
@[simp] theorem M40:M 40 = []:=rfl
@[simp] theorem M41:M 41 = []:=rfl
@[simp] theorem M42:M 42 = []:=rfl
@[simp] theorem M43:M 43 = []:=rfl
@[simp] theorem M44:M 44 = []:=rfl
@[simp] theorem M45:M 45 = []:=rfl
@[simp] theorem M46:M 46 = [(true,0),(false,0)]:=rfl
@[simp] theorem M47:M 47 = []:=rfl
@[simp] theorem M48:M 48 = []:=rfl
@[simp] theorem M49:M 49 = []:=rfl
@[simp] theorem M50:M 50 = []:=rfl
@[simp] theorem M51:M 51 = []:=rfl
@[simp] theorem M52:M 52 = []:=rfl
@[simp] theorem M53:M 53 = [(true,0),(false,0)]:=rfl
@[simp] theorem M54:M 54 = []:=rfl
@[simp] theorem M55:M 55 = []:=rfl
@[simp] theorem M56:M 56 = []:=rfl
@[simp] theorem M57:M 57 = []:=rfl
@[simp] theorem M58:M 58 = []:=rfl
@[simp] theorem M59:M 59 = []:=rfl
@[simp] theorem M60:M 60 = []:=rfl
@[simp] theorem M61:M 61 = []:=rfl
@[simp] theorem M62:M 62 = []:=rfl
@[simp] theorem M63:M 63 = []:=rfl
@[simp] theorem M64:M 64 = []:=rfl
@[simp] theorem M65:M 65 = []:=rfl
@[simp] theorem M66:M 66 = []:=rfl
@[simp] theorem M67:M 67 = []:=rfl
@[simp] theorem M68:M 68 = []:=rfl
@[simp] theorem M69:M 69 = []:=rfl
@[simp] theorem M70:M 70 = []:=rfl
@[simp] theorem M71:M 71 = []:=rfl
@[simp] theorem M72:M 72 = []:=rfl
@[simp] theorem M73:M 73 = []:=rfl
@[simp] theorem M74:M 74 = []:=rfl
@[simp] theorem M75:M 75 = []:=rfl
@[simp] theorem M76:M 76 = []:=rfl
@[simp] theorem M77:M 77 = []:=rfl
@[simp] theorem M78:M 78 = []:=rfl
@[simp] theorem M79:M 79 = [(false,4),(false,0),(false,0)]:=rfl
@[simp] theorem M80:M 80 = [(false,4),(false,0),(false,0),(false,0)]:=rfl
@[simp] theorem M81:M 81 = [(false,4),(false,0)]:=rfl
@[simp] theorem M82:M 82 = []:=rfl
@[simp] theorem M83:M 83 = [(true,4),(false,1),(false,3),(false,1),(false,1),(false,1),(false,1)]:=rfl
@[simp] theorem M84:M 84 = [(false,4),(false,0),(false,0)]:=rfl
@[simp] theorem M85:M 85 = []:=rfl
@[simp] theorem M86:M 86 = [(true,4),(false,0),(false,0),(false,0)]:=rfl
@[simp] theorem M87:M 87 = []:=rfl
@[simp] theorem M88:M 88 = []:=rfl
@[simp] theorem M89:M 89 = []:=rfl
@[simp] theorem M90:M 90 = [(true,0),(false,0)]:=rfl
@[simp] theorem M91:M 91 = [(true,0),(false,0)]:=rfl
@[simp] theorem M92:M 92 = [(true,0),(false,0)]:=rfl
@[simp] theorem M93:M 93 = []:=rfl
@[simp] theorem M94:M 94 = []:=rfl
@[simp] theorem M95:M 95 = []:=rfl
@[simp] theorem M96:M 96 = []:=rfl
@[simp] theorem M97:M 97 = []:=rfl
@[simp] theorem M98:M 98 = []:=rfl
@[simp] theorem M99:M 99 = []:=rfl
@[simp] theorem M100:M 100 = []:=rfl
@[simp] theorem M101:M 101 = []:=rfl
@[simp] theorem M102:M 102 = []:=rfl
@[simp] theorem M103:M 103 = []:=rfl
@[simp] theorem M104:M 104 = []:=rfl
@[simp] theorem M105:M 105 = [(false,4),(false,0),(false,0),(false,0)]:=rfl
@[simp] theorem M106:M 106 = [(true,4),(false,4),(false,1),(false,4)]:=rfl
@[simp] theorem M107:M 107 = [(true,4),(false,0),(false,0),(false,0),(false,0)]:=rfl
@[simp] theorem M108:M 108 = [(true,4),(false,0),(false,0)]:=rfl
@[simp] theorem M109:M 109 = []:=rfl
@[simp] theorem M110:M 110 = []:=rfl
@[simp] theorem M111:M 111 = []:=rfl
@[simp] theorem M112:M 112 = []:=rfl
@[simp] theorem M113:M 113 = []:=rfl
@[simp] theorem M114:M 114 = [(true,4),(false,0),(false,3),(false,1),(false,1)]:=rfl
@[simp] theorem M115:M 115 = []:=rfl
@[simp] theorem M116:M 116 = []:=rfl
@[simp] theorem M117:M 117 = [(true,4),(false,0),(false,0)]:=rfl
@[simp] theorem M118:M 118 = []:=rfl
@[simp] theorem M119:M 119 = []:=rfl
@[simp] theorem M120:M 120 = []:=rfl
@[simp] theorem M121:M 121 = []:=rfl
@[simp] theorem M122:M 122 = []:=rfl
@[simp] theorem M123:M 123 = []:=rfl
@[simp] theorem M124:M 124 = []:=rfl
@[simp] theorem M125:M 125 = [(true,0),(false,0)]:=rfl
@[simp] theorem M126:M 126 = []:=rfl
@[simp] theorem M127:M 127 = []:=rfl
@[simp] theorem M128:M 128 = []:=rfl
@[simp] theorem M129:M 129 = []:=rfl
@[simp] theorem M130:M 130 = []:=rfl
@[simp] theorem M131:M 131 = []:=rfl
@[simp] theorem M132:M 132 = []:=rfl
@[simp] theorem M133:M 133 = [(true,5),(false,0),(false,0)]:=rfl
@[simp] theorem M134:M 134 = []:=rfl
@[simp] theorem M135:M 135 = []:=rfl
@[simp] theorem M136:M 136 = []:=rfl
@[simp] theorem M137:M 137 = [(true,0),(false,0)]:=rfl
@[simp] theorem M138:M 138 = []:=rfl
@[simp] theorem M139:M 139 = [(true,5),(false,0),(false,0),(false,0),(false,0)]:=rfl
@[simp] theorem M140:M 140 = []:=rfl
@[simp] theorem M141:M 141 = []:=rfl
@[simp] theorem M142:M 142 = []:=rfl
@[simp] theorem M143:M 143 = []:=rfl
@[simp] theorem M144:M 144 = []:=rfl
@[simp] theorem M145:M 145 = []:=rfl
@[simp] theorem M146:M 146 = []:=rfl
@[simp] theorem M147:M 147 = []:=rfl
@[simp] theorem M148:M 148 = []:=rfl
@[simp] theorem M149:M 149 = []:=rfl
@[simp] theorem M150:M 150 = []:=rfl
@[simp] theorem M151:M 151 = []:=rfl
@[simp] theorem M152:M 152 = []:=rfl
@[simp] theorem M153:M 153 = []:=rfl
@[simp] theorem M154:M 154 = []:=rfl
@[simp] theorem M155:M 155 = []:=rfl
@[simp] theorem M156:M 156 = []:=rfl
@[simp] theorem M157:M 157 = []:=rfl
@[simp] theorem M158:M 158 = []:=rfl
@[simp] theorem M159:M 159 = []:=rfl
@[simp] theorem M160:M 160 = [(false,4),(false,0),(false,0)]:=rfl
@[simp] theorem M161:M 161 = [(false,4),(false,0)]:=rfl
@[simp] theorem M162:M 162 = [(false,4),(false,0)]:=rfl
@[simp] theorem M163:M 163 = [(false,4),(false,0)]:=rfl
@[simp] theorem M164:M 164 = []:=rfl
@[simp] theorem M165:M 165 = [(false,4),(false,0)]:=rfl
@[simp] theorem M166:M 166 = []:=rfl
@[simp] theorem M167:M 167 = [(true,4),(false,0),(false,0),(false,0)]:=rfl
@[simp] theorem M168:M 168 = []:=rfl
@[simp] theorem M169:M 169 = []:=rfl
@[simp] theorem M170:M 170 = []:=rfl
@[simp] theorem M171:M 171 = [(true,0),(false,0)]:=rfl
@[simp] theorem M172:M 172 = []:=rfl
@[simp] theorem M173:M 173 = []:=rfl
@[simp] theorem M174:M 174 = []:=rfl
@[simp] theorem M175:M 175 = []:=rfl
@[simp] theorem M176:M 176 = []:=rfl
@[simp] theorem M177:M 177 = []:=rfl
@[simp] theorem M178:M 178 = [(true,0),(false,0),(false,0)]:=rfl
@[simp] theorem M179:M 179 = [(false,4),(false,0),(false,0),(false,0),(false,0)]:=rfl
@[simp] theorem M180:M 180 = [(false,0),(false,1),(false,1)]:=rfl
@[simp] theorem M181:M 181 = [(true,4),(false,1),(false,1),(false,1),(false,1)]:=rfl
@[simp] theorem M182:M 182 = []:=rfl
@[simp] theorem M183:M 183 = []:=rfl
@[simp] theorem M184:M 184 = [(false,0),(false,3),(false,1)]:=rfl
@[simp] theorem M185:M 185 = []:=rfl
@[simp] theorem M186:M 186 = [(false,4),(false,0),(false,0)]:=rfl
@[simp] theorem M187:M 187 = []:=rfl
@[simp] theorem M188:M 188 = [(true,4),(false,0)]:=rfl
@[simp] theorem M189:M 189 = [(true,4),(false,0),(false,0)]:=rfl
@[simp] theorem M190:M 190 = []:=rfl
@[simp] theorem M191:M 191 = []:=rfl
@[simp] theorem M192:M 192 = []:=rfl
@[simp] theorem M193:M 193 = []:=rfl
@[simp] theorem M194:M 194 = [(true,4),(false,1),(false,1)]:=rfl
@[simp] theorem M195:M 195 = [(false,4),(false,0)]:=rfl
@[simp] theorem M196:M 196 = []:=rfl
@[simp] theorem M197:M 197 = []:=rfl
@[simp] theorem M198:M 198 = []:=rfl
@[simp] theorem M199:M 199 = []:=rfl
@[simp] theorem M200:M 200 = []:=rfl
@[simp] theorem M201:M 201 = []:=rfl
@[simp] theorem M202:M 202 = [(false,5),(false,0)]:=rfl
@[simp] theorem M203:M 203 = []:=rfl
@[simp] theorem M204:M 204 = [(true,0),(false,0)]:=rfl
@[simp] theorem M205:M 205 = []:=rfl
@[simp] theorem M206:M 206 = []:=rfl
@[simp] theorem M207:M 207 = []:=rfl
@[simp] theorem M208:M 208 = []:=rfl
@[simp] theorem M209:M 209 = []:=rfl
@[simp] theorem M210:M 210 = [(true,5),(false,0),(false,0)]:=rfl
@[simp] theorem M211:M 211 = []:=rfl
@[simp] theorem M212:M 212 = []:=rfl
@[simp] theorem M213:M 213 = []:=rfl
@[simp] theorem M214:M 214 = []:=rfl
@[simp] theorem M215:M 215 = []:=rfl
@[simp] theorem M216:M 216 = []:=rfl
@[simp] theorem M217:M 217 = []:=rfl
@[simp] theorem M218:M 218 = []:=rfl
@[simp] theorem M219:M 219 = []:=rfl
@[simp] theorem M220:M 220 = []:=rfl
@[simp] theorem M221:M 221 = []:=rfl
@[simp] theorem M222:M 222 = []:=rfl
@[simp] theorem M223:M 223 = []:=rfl
@[simp] theorem M224:M 224 = []:=rfl
@[simp] theorem M225:M 225 = []:=rfl
@[simp] theorem M226:M 226 = []:=rfl
@[simp] theorem M227:M 227 = []:=rfl
@[simp] theorem M228:M 228 = []:=rfl
@[simp] theorem M229:M 229 = [(false,4),(false,0)]:=rfl
@[simp] theorem M230:M 230 = []:=rfl
@[simp] theorem M231:M 231 = [(false,0),(false,1)]:=rfl
@[simp] theorem M232:M 232 = []:=rfl
@[simp] theorem M233:M 233 = []:=rfl
@[simp] theorem M234:M 234 = []:=rfl
@[simp] theorem M235:M 235 = []:=rfl
@[simp] theorem M236:M 236 = []:=rfl
@[simp] theorem M237:M 237 = []:=rfl
@[simp] theorem M238:M 238 = []:=rfl
@[simp] theorem M239:M 239 = []:=rfl
@[simp] theorem M240:M 240 = []:=rfl
@[simp] theorem M241:M 241 = []:=rfl
@[simp] theorem M242:M 242 = []:=rfl
@[simp] theorem M243:M 243 = []:=rfl
@[simp] theorem M244:M 244 = []:=rfl
@[simp] theorem M245:M 245 = []:=rfl
@[simp] theorem M246:M 246 = []:=rfl
@[simp] theorem M247:M 247 = [(false,4),(false,0)]:=rfl
@[simp] theorem M248:M 248 = []:=rfl
@[simp] theorem M249:M 249 = []:=rfl
@[simp] theorem M250:M 250 = []:=rfl
@[simp] theorem M251:M 251 = [(false,4),(false,0)]:=rfl
@[simp] theorem M252:M 252 = [(false,4)]:=rfl
@[simp] theorem M253:M 253 = []:=rfl
@[simp] theorem M254:M 254 = []:=rfl
@[simp] theorem M255:M 255 = []:=rfl
@[simp] theorem M256:M 256 = []:=rfl
@[simp] theorem M257:M 257 = []:=rfl
@[simp] theorem M258:M 258 = []:=rfl
@[simp] theorem M259:M 259 = []:=rfl
@[simp] theorem M260:M 260 = []:=rfl
@[simp] theorem M261:M 261 = []:=rfl
@[simp] theorem M262:M 262 = []:=rfl
@[simp] theorem M263:M 263 = []:=rfl
@[simp] theorem M264:M 264 = []:=rfl
@[simp] theorem M265:M 265 = []:=rfl
@[simp] theorem M266:M 266 = []:=rfl
@[simp] theorem M267:M 267 = []:=rfl
@[simp] theorem M268:M 268 = []:=rfl
@[simp] theorem M269:M 269 = []:=rfl
@[simp] theorem M270:M 270 = []:=rfl
@[simp] theorem M271:M 271 = []:=rfl
@[simp] theorem M272:M 272 = []:=rfl
@[simp] theorem M273:M 273 = []:=rfl
@[simp] theorem M274:M 274 = []:=rfl
@[simp] theorem M275:M 275 = []:=rfl
@[simp] theorem M276:M 276 = []:=rfl
@[simp] theorem M277:M 277 = []:=rfl
@[simp] theorem M278:M 278 = []:=rfl
@[simp] theorem M279:M 279 = []:=rfl
@[simp] theorem M280:M 280 = []:=rfl
@[simp] theorem M281:M 281 = []:=rfl
@[simp] theorem M282:M 282 = []:=rfl
@[simp] theorem M283:M 283 = []:=rfl
@[simp] theorem M284:M 284 = []:=rfl
@[simp] theorem M285:M 285 = []:=rfl
@[simp] theorem M286:M 286 = []:=rfl
@[simp] theorem M287:M 287 = []:=rfl
@[simp] theorem M288:M 288 = []:=rfl
@[simp] theorem M289:M 289 = []:=rfl
@[simp] theorem M290:M 290 = []:=rfl
@[simp] theorem M291:M 291 = []:=rfl
@[simp] theorem M292:M 292 = []:=rfl
@[simp] theorem M293:M 293 = []:=rfl
@[simp] theorem M294:M 294 = []:=rfl
@[simp] theorem M295:M 295 = []:=rfl
@[simp] theorem M296:M 296 = []:=rfl
@[simp] theorem M309:M 309 = []:=rfl
@[simp] theorem M310:M 310 = []:=rfl
@[simp] theorem M311:M 311 = []:=rfl
@[simp] theorem M312:M 312 = []:=rfl
@[simp] theorem M313:M 313 = []:=rfl
@[simp] theorem M314:M 314 = []:=rfl
abbrev K:=Con Tryz.prog
theorem ks:Sound Tryz.prog K:=con_sound
end Go.Proofs.YtgopfdninbknpaaGreat
