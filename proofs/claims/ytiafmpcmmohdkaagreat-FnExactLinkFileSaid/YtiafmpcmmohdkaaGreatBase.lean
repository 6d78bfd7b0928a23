/- The seat's base: its types, its modes. Written by base.py. -/
import Derived.Test.YtiafmpcmmohdkaaGreatFz
import Derived.Test.YtiafmpcmmohdkaaGreatProg
import Derived.KernelRfl
namespace Go.Proofs.YtiafmpcmmohdkaaGreat
open Go.Fw
set_option linter.unusedVariables false
def rowsT : List (TypeId × TI) := [(2, ⟨.int .i64, 1, [.int .i64 0]⟩),
  (3, ⟨.int .i64, 1, [.int .i64 0]⟩),
  (4, ⟨.bool, 1, [.bool false]⟩),
  (5, ⟨.int .u8, 1, [.int .u8 0]⟩),
  (9, ⟨.str, 1, [.str []]⟩),
  (12, ⟨.int .u64, 1, [.int .u64 0]⟩),
  (21, ⟨.int .i32, 1, [.int .i32 0]⟩),
  (22, ⟨.slice 135, 1, [.frz 2 (some true) []]⟩),
  (23, ⟨.slice 130, 1, [.frz 10 (some true) []]⟩),
  (24, ⟨.slice 9, 1, [.frz 1 (some true) []]⟩),
  (25, ⟨.struct [(0, 3), (1, 22), (2, 23), (3, 24)] false, 4, [.int .i64 0, .frz 2 (some true) [], .frz 10 (some true) [], .frz 1 (some true) []]⟩),
  (26, ⟨.struct [(0, 3), (1, 22), (2, 23), (3, 24)] false, 4, [.int .i64 0, .frz 2 (some true) [], .frz 10 (some true) [], .frz 1 (some true) []]⟩),
  (29, ⟨.slice 133, 1, [.frz 2 (some true) []]⟩),
  (30, ⟨.slice 98, 1, [.frz 10 (some true) []]⟩),
  (31, ⟨.struct [(0, 3), (1, 29), (2, 30), (3, 24)] false, 4, [.int .i64 0, .frz 2 (some true) [], .frz 10 (some true) [], .frz 1 (some true) []]⟩),
  (32, ⟨.struct [(0, 3), (1, 29), (2, 30), (3, 24)] false, 4, [.int .i64 0, .frz 2 (some true) [], .frz 10 (some true) [], .frz 1 (some true) []]⟩),
  (39, ⟨.slice 3, 1, [.frz 1 (some true) []]⟩),
  (40, ⟨.struct [(0, 3), (1, 3), (2, 39)] false, 3, [.int .i64 0, .int .i64 0, .frz 1 (some true) []]⟩),
  (41, ⟨.struct [(0, 3), (1, 3), (2, 39)] false, 3, [.int .i64 0, .int .i64 0, .frz 1 (some true) []]⟩),
  (45, ⟨.struct [(0, 3), (1, 3), (2, 39)] false, 3, [.int .i64 0, .int .i64 0, .frz 1 (some true) []]⟩),
  (59, ⟨.slice 120, 1, [.frz 3 (some true) []]⟩),
  (62, ⟨.slice 118, 1, [.frz 3 (some true) []]⟩),
  (97, ⟨.struct [(0, 3), (1, 3), (2, 3), (3, 3), (4, 3), (5, 3), (6, 3), (7, 39), (8, 62), (9, 62)] false, 10, [.int .i64 0, .int .i64 0, .int .i64 0, .int .i64 0, .int .i64 0, .int .i64 0, .int .i64 0, .frz 1 (some true) [], .frz 3 (some true) [], .frz 3 (some true) []]⟩),
  (98, ⟨.struct [(0, 3), (1, 3), (2, 3), (3, 3), (4, 3), (5, 3), (6, 3), (7, 39), (8, 62), (9, 62)] false, 10, [.int .i64 0, .int .i64 0, .int .i64 0, .int .i64 0, .int .i64 0, .int .i64 0, .int .i64 0, .frz 1 (some true) [], .frz 3 (some true) [], .frz 3 (some true) []]⟩),
  (105, ⟨.other, 1, [.unk]⟩),
  (107, ⟨.other, 1, [.unk]⟩),
  (108, ⟨.ptr 32, 1, [.nilp]⟩),
  (110, ⟨.other, 1, [.unk]⟩),
  (117, ⟨.struct [(0, 3), (1, 3), (2, 3)] true, 3, [.int .i64 0, .int .i64 0, .int .i64 0]⟩),
  (118, ⟨.struct [(0, 3), (1, 3), (2, 3)] true, 3, [.int .i64 0, .int .i64 0, .int .i64 0]⟩),
  (120, ⟨.struct [(0, 3), (1, 3), (2, 3)] true, 3, [.int .i64 0, .int .i64 0, .int .i64 0]⟩),
  (121, ⟨.other, 1, [.unk]⟩),
  (122, ⟨.other, 1, [.unk]⟩),
  (125, ⟨.ptr 98, 1, [.nilp]⟩),
  (129, ⟨.struct [(0, 3), (1, 3), (2, 3), (3, 3), (4, 3), (5, 3), (6, 3), (7, 39), (8, 59), (9, 59)] false, 10, [.int .i64 0, .int .i64 0, .int .i64 0, .int .i64 0, .int .i64 0, .int .i64 0, .int .i64 0, .frz 1 (some true) [], .frz 3 (some true) [], .frz 3 (some true) []]⟩),
  (130, ⟨.struct [(0, 3), (1, 3), (2, 3), (3, 3), (4, 3), (5, 3), (6, 3), (7, 39), (8, 59), (9, 59)] false, 10, [.int .i64 0, .int .i64 0, .int .i64 0, .int .i64 0, .int .i64 0, .int .i64 0, .int .i64 0, .frz 1 (some true) [], .frz 3 (some true) [], .frz 3 (some true) []]⟩),
  (132, ⟨.struct [(0, 3), (1, 3)] true, 2, [.int .i64 0, .int .i64 0]⟩),
  (133, ⟨.struct [(0, 3), (1, 3)] true, 2, [.int .i64 0, .int .i64 0]⟩),
  (135, ⟨.struct [(0, 3), (1, 3)] true, 2, [.int .i64 0, .int .i64 0]⟩),
  (137, ⟨.arr 56 4, 56, [.bool false, .bool false, .bool false, .bool false, .bool false, .bool false, .bool false, .bool false, .bool false, .bool false, .bool false, .bool false, .bool false, .bool false, .bool false, .bool false, .bool false, .bool false, .bool false, .bool false, .bool false, .bool false, .bool false, .bool false, .bool false, .bool false, .bool false, .bool false, .bool false, .bool false, .bool false, .bool false, .bool false, .bool false, .bool false, .bool false, .bool false, .bool false, .bool false, .bool false, .bool false, .bool false, .bool false, .bool false, .bool false, .bool false, .bool false, .bool false, .bool false, .bool false, .bool false, .bool false, .bool false, .bool false, .bool false, .bool false]⟩),
  (143, ⟨.slice 4, 1, [.frz 1 (some true) []]⟩),
  (146, ⟨.slice 149, 1, [.frz 2 (some true) []]⟩),
  (148, ⟨.struct [(0, 9), (1, 3)] true, 2, [.str [], .int .i64 0]⟩),
  (149, ⟨.struct [(0, 9), (1, 3)] true, 2, [.str [], .int .i64 0]⟩),
  (176, ⟨.slice 5, 1, [.frz 1 (some true) []]⟩),
  (180, ⟨.ptr 182, 1, [.nilp]⟩),
  (181, ⟨.struct [(0, 180), (1, 176)] false, 2, [.nilp, .frz 1 (some true) []]⟩),
  (182, ⟨.struct [(0, 180), (1, 176)] false, 2, [.nilp, .frz 1 (some true) []]⟩),
  (191, ⟨.int .u64, 1, [.int .u64 0]⟩),
  (193, ⟨.ptr 5, 1, [.nilp]⟩),
  (195, ⟨.arr 256 4, 256, [.bool false, .bool false, .bool false, .bool false, .bool false, .bool false, .bool false, .bool false, .bool false, .bool false, .bool false, .bool false, .bool false, .bool false, .bool false, .bool false, .bool false, .bool false, .bool false, .bool false, .bool false, .bool false, .bool false, .bool false, .bool false, .bool false, .bool false, .bool false, .bool false, .bool false, .bool false, .bool false, .bool false, .bool false, .bool false, .bool false, .bool false, .bool false, .bool false, .bool false, .bool false, .bool false, .bool false, .bool false, .bool false, .bool false, .bool false, .bool false, .bool false, .bool false, .bool false, .bool false, .bool false, .bool false, .bool false, .bool false, .bool false, .bool false, .bool false, .bool false, .bool false, .bool false, .bool false, .bool false, .bool false, .bool false, .bool false, .bool false, .bool false, .bool false, .bool false, .bool false, .bool false, .bool false, .bool false, .bool false, .bool false, .bool false, .bool false, .bool false, .bool false, .bool false, .bool false, .bool false, .bool false, .bool false, .bool false, .bool false, .bool false, .bool false, .bool false, .bool false, .bool false, .bool false, .bool false, .bool false, .bool false, .bool false, .bool false, .bool false, .bool false, .bool false, .bool false, .bool false, .bool false, .bool false, .bool false, .bool false, .bool false, .bool false, .bool false, .bool false, .bool false, .bool false, .bool false, .bool false, .bool false, .bool false, .bool false, .bool false, .bool false, .bool false, .bool false, .bool false, .bool false, .bool false, .bool false, .bool false, .bool false, .bool false, .bool false, .bool false, .bool false, .bool false, .bool false, .bool false, .bool false, .bool false, .bool false, .bool false, .bool false, .bool false, .bool false, .bool false, .bool false, .bool false, .bool false, .bool false, .bool false, .bool false, .bool false, .bool false, .bool false, .bool false, .bool false, .bool false, .bool false, .bool false, .bool false, .bool false, .bool false, .bool false, .bool false, .bool false, .bool false, .bool false, .bool false, .bool false, .bool false, .bool false, .bool false, .bool false, .bool false, .bool false, .bool false, .bool false, .bool false, .bool false, .bool false, .bool false, .bool false, .bool false, .bool false, .bool false, .bool false, .bool false, .bool false, .bool false, .bool false, .bool false, .bool false, .bool false, .bool false, .bool false, .bool false, .bool false, .bool false, .bool false, .bool false, .bool false, .bool false, .bool false, .bool false, .bool false, .bool false, .bool false, .bool false, .bool false, .bool false, .bool false, .bool false, .bool false, .bool false, .bool false, .bool false, .bool false, .bool false, .bool false, .bool false, .bool false, .bool false, .bool false, .bool false, .bool false, .bool false, .bool false, .bool false, .bool false, .bool false, .bool false, .bool false, .bool false, .bool false, .bool false, .bool false, .bool false, .bool false, .bool false, .bool false, .bool false, .bool false, .bool false, .bool false, .bool false, .bool false, .bool false, .bool false, .bool false, .bool false, .bool false, .bool false, .bool false, .bool false, .bool false, .bool false, .bool false]⟩),
  (196, ⟨.arr 256 4, 256, [.bool false, .bool false, .bool false, .bool false, .bool false, .bool false, .bool false, .bool false, .bool false, .bool false, .bool false, .bool false, .bool false, .bool false, .bool false, .bool false, .bool false, .bool false, .bool false, .bool false, .bool false, .bool false, .bool false, .bool false, .bool false, .bool false, .bool false, .bool false, .bool false, .bool false, .bool false, .bool false, .bool false, .bool false, .bool false, .bool false, .bool false, .bool false, .bool false, .bool false, .bool false, .bool false, .bool false, .bool false, .bool false, .bool false, .bool false, .bool false, .bool false, .bool false, .bool false, .bool false, .bool false, .bool false, .bool false, .bool false, .bool false, .bool false, .bool false, .bool false, .bool false, .bool false, .bool false, .bool false, .bool false, .bool false, .bool false, .bool false, .bool false, .bool false, .bool false, .bool false, .bool false, .bool false, .bool false, .bool false, .bool false, .bool false, .bool false, .bool false, .bool false, .bool false, .bool false, .bool false, .bool false, .bool false, .bool false, .bool false, .bool false, .bool false, .bool false, .bool false, .bool false, .bool false, .bool false, .bool false, .bool false, .bool false, .bool false, .bool false, .bool false, .bool false, .bool false, .bool false, .bool false, .bool false, .bool false, .bool false, .bool false, .bool false, .bool false, .bool false, .bool false, .bool false, .bool false, .bool false, .bool false, .bool false, .bool false, .bool false, .bool false, .bool false, .bool false, .bool false, .bool false, .bool false, .bool false, .bool false, .bool false, .bool false, .bool false, .bool false, .bool false, .bool false, .bool false, .bool false, .bool false, .bool false, .bool false, .bool false, .bool false, .bool false, .bool false, .bool false, .bool false, .bool false, .bool false, .bool false, .bool false, .bool false, .bool false, .bool false, .bool false, .bool false, .bool false, .bool false, .bool false, .bool false, .bool false, .bool false, .bool false, .bool false, .bool false, .bool false, .bool false, .bool false, .bool false, .bool false, .bool false, .bool false, .bool false, .bool false, .bool false, .bool false, .bool false, .bool false, .bool false, .bool false, .bool false, .bool false, .bool false, .bool false, .bool false, .bool false, .bool false, .bool false, .bool false, .bool false, .bool false, .bool false, .bool false, .bool false, .bool false, .bool false, .bool false, .bool false, .bool false, .bool false, .bool false, .bool false, .bool false, .bool false, .bool false, .bool false, .bool false, .bool false, .bool false, .bool false, .bool false, .bool false, .bool false, .bool false, .bool false, .bool false, .bool false, .bool false, .bool false, .bool false, .bool false, .bool false, .bool false, .bool false, .bool false, .bool false, .bool false, .bool false, .bool false, .bool false, .bool false, .bool false, .bool false, .bool false, .bool false, .bool false, .bool false, .bool false, .bool false, .bool false, .bool false, .bool false, .bool false, .bool false, .bool false, .bool false, .bool false, .bool false, .bool false, .bool false, .bool false, .bool false, .bool false, .bool false, .bool false, .bool false, .bool false, .bool false]⟩),
  (208, ⟨.ptr 196, 1, [.nilp]⟩),
  (209, ⟨.int .u32, 1, [.int .u32 0]⟩),
  (212, ⟨.int .u64, 1, [.int .u64 0]⟩)]
def T : Types := tab rowsT
@[simp] theorem T2 : T 2 = some ⟨.int .i64, 1, [.int .i64 0]⟩ := rfl
@[simp] theorem T3 : T 3 = some ⟨.int .i64, 1, [.int .i64 0]⟩ := rfl
@[simp] theorem T4 : T 4 = some ⟨.bool, 1, [.bool false]⟩ := rfl
@[simp] theorem T5 : T 5 = some ⟨.int .u8, 1, [.int .u8 0]⟩ := rfl
@[simp] theorem T9 : T 9 = some ⟨.str, 1, [.str []]⟩ := rfl
@[simp] theorem T12 : T 12 = some ⟨.int .u64, 1, [.int .u64 0]⟩ := rfl
@[simp] theorem T21 : T 21 = some ⟨.int .i32, 1, [.int .i32 0]⟩ := rfl
@[simp] theorem T22 : T 22 = some ⟨.slice 135, 1, [.frz 2 (some true) []]⟩ := rfl
@[simp] theorem T23 : T 23 = some ⟨.slice 130, 1, [.frz 10 (some true) []]⟩ := rfl
@[simp] theorem T24 : T 24 = some ⟨.slice 9, 1, [.frz 1 (some true) []]⟩ := rfl
@[simp] theorem T25 : T 25 = some ⟨.struct [(0, 3), (1, 22), (2, 23), (3, 24)] false, 4, [.int .i64 0, .frz 2 (some true) [], .frz 10 (some true) [], .frz 1 (some true) []]⟩ := rfl
@[simp] theorem T26 : T 26 = some ⟨.struct [(0, 3), (1, 22), (2, 23), (3, 24)] false, 4, [.int .i64 0, .frz 2 (some true) [], .frz 10 (some true) [], .frz 1 (some true) []]⟩ := rfl
@[simp] theorem T29 : T 29 = some ⟨.slice 133, 1, [.frz 2 (some true) []]⟩ := rfl
@[simp] theorem T30 : T 30 = some ⟨.slice 98, 1, [.frz 10 (some true) []]⟩ := rfl
@[simp] theorem T31 : T 31 = some ⟨.struct [(0, 3), (1, 29), (2, 30), (3, 24)] false, 4, [.int .i64 0, .frz 2 (some true) [], .frz 10 (some true) [], .frz 1 (some true) []]⟩ := rfl
@[simp] theorem T32 : T 32 = some ⟨.struct [(0, 3), (1, 29), (2, 30), (3, 24)] false, 4, [.int .i64 0, .frz 2 (some true) [], .frz 10 (some true) [], .frz 1 (some true) []]⟩ := rfl
@[simp] theorem T39 : T 39 = some ⟨.slice 3, 1, [.frz 1 (some true) []]⟩ := rfl
@[simp] theorem T40 : T 40 = some ⟨.struct [(0, 3), (1, 3), (2, 39)] false, 3, [.int .i64 0, .int .i64 0, .frz 1 (some true) []]⟩ := rfl
@[simp] theorem T41 : T 41 = some ⟨.struct [(0, 3), (1, 3), (2, 39)] false, 3, [.int .i64 0, .int .i64 0, .frz 1 (some true) []]⟩ := rfl
@[simp] theorem T45 : T 45 = some ⟨.struct [(0, 3), (1, 3), (2, 39)] false, 3, [.int .i64 0, .int .i64 0, .frz 1 (some true) []]⟩ := rfl
@[simp] theorem T59 : T 59 = some ⟨.slice 120, 1, [.frz 3 (some true) []]⟩ := rfl
@[simp] theorem T62 : T 62 = some ⟨.slice 118, 1, [.frz 3 (some true) []]⟩ := rfl
@[simp] theorem T97 : T 97 = some ⟨.struct [(0, 3), (1, 3), (2, 3), (3, 3), (4, 3), (5, 3), (6, 3), (7, 39), (8, 62), (9, 62)] false, 10, [.int .i64 0, .int .i64 0, .int .i64 0, .int .i64 0, .int .i64 0, .int .i64 0, .int .i64 0, .frz 1 (some true) [], .frz 3 (some true) [], .frz 3 (some true) []]⟩ := rfl
@[simp] theorem T98 : T 98 = some ⟨.struct [(0, 3), (1, 3), (2, 3), (3, 3), (4, 3), (5, 3), (6, 3), (7, 39), (8, 62), (9, 62)] false, 10, [.int .i64 0, .int .i64 0, .int .i64 0, .int .i64 0, .int .i64 0, .int .i64 0, .int .i64 0, .frz 1 (some true) [], .frz 3 (some true) [], .frz 3 (some true) []]⟩ := rfl
@[simp] theorem T105 : T 105 = some ⟨.other, 1, [.unk]⟩ := rfl
@[simp] theorem T107 : T 107 = some ⟨.other, 1, [.unk]⟩ := rfl
@[simp] theorem T108 : T 108 = some ⟨.ptr 32, 1, [.nilp]⟩ := rfl
@[simp] theorem T110 : T 110 = some ⟨.other, 1, [.unk]⟩ := rfl
@[simp] theorem T117 : T 117 = some ⟨.struct [(0, 3), (1, 3), (2, 3)] true, 3, [.int .i64 0, .int .i64 0, .int .i64 0]⟩ := rfl
@[simp] theorem T118 : T 118 = some ⟨.struct [(0, 3), (1, 3), (2, 3)] true, 3, [.int .i64 0, .int .i64 0, .int .i64 0]⟩ := rfl
@[simp] theorem T120 : T 120 = some ⟨.struct [(0, 3), (1, 3), (2, 3)] true, 3, [.int .i64 0, .int .i64 0, .int .i64 0]⟩ := rfl
@[simp] theorem T121 : T 121 = some ⟨.other, 1, [.unk]⟩ := rfl
@[simp] theorem T122 : T 122 = some ⟨.other, 1, [.unk]⟩ := rfl
@[simp] theorem T125 : T 125 = some ⟨.ptr 98, 1, [.nilp]⟩ := rfl
@[simp] theorem T129 : T 129 = some ⟨.struct [(0, 3), (1, 3), (2, 3), (3, 3), (4, 3), (5, 3), (6, 3), (7, 39), (8, 59), (9, 59)] false, 10, [.int .i64 0, .int .i64 0, .int .i64 0, .int .i64 0, .int .i64 0, .int .i64 0, .int .i64 0, .frz 1 (some true) [], .frz 3 (some true) [], .frz 3 (some true) []]⟩ := rfl
@[simp] theorem T130 : T 130 = some ⟨.struct [(0, 3), (1, 3), (2, 3), (3, 3), (4, 3), (5, 3), (6, 3), (7, 39), (8, 59), (9, 59)] false, 10, [.int .i64 0, .int .i64 0, .int .i64 0, .int .i64 0, .int .i64 0, .int .i64 0, .int .i64 0, .frz 1 (some true) [], .frz 3 (some true) [], .frz 3 (some true) []]⟩ := rfl
@[simp] theorem T132 : T 132 = some ⟨.struct [(0, 3), (1, 3)] true, 2, [.int .i64 0, .int .i64 0]⟩ := rfl
@[simp] theorem T133 : T 133 = some ⟨.struct [(0, 3), (1, 3)] true, 2, [.int .i64 0, .int .i64 0]⟩ := rfl
@[simp] theorem T135 : T 135 = some ⟨.struct [(0, 3), (1, 3)] true, 2, [.int .i64 0, .int .i64 0]⟩ := rfl
@[simp] theorem T137 : T 137 = some ⟨.arr 56 4, 56, [.bool false, .bool false, .bool false, .bool false, .bool false, .bool false, .bool false, .bool false, .bool false, .bool false, .bool false, .bool false, .bool false, .bool false, .bool false, .bool false, .bool false, .bool false, .bool false, .bool false, .bool false, .bool false, .bool false, .bool false, .bool false, .bool false, .bool false, .bool false, .bool false, .bool false, .bool false, .bool false, .bool false, .bool false, .bool false, .bool false, .bool false, .bool false, .bool false, .bool false, .bool false, .bool false, .bool false, .bool false, .bool false, .bool false, .bool false, .bool false, .bool false, .bool false, .bool false, .bool false, .bool false, .bool false, .bool false, .bool false]⟩ := rfl
@[simp] theorem T143 : T 143 = some ⟨.slice 4, 1, [.frz 1 (some true) []]⟩ := rfl
@[simp] theorem T146 : T 146 = some ⟨.slice 149, 1, [.frz 2 (some true) []]⟩ := rfl
@[simp] theorem T148 : T 148 = some ⟨.struct [(0, 9), (1, 3)] true, 2, [.str [], .int .i64 0]⟩ := rfl
@[simp] theorem T149 : T 149 = some ⟨.struct [(0, 9), (1, 3)] true, 2, [.str [], .int .i64 0]⟩ := rfl
@[simp] theorem T176 : T 176 = some ⟨.slice 5, 1, [.frz 1 (some true) []]⟩ := rfl
@[simp] theorem T180 : T 180 = some ⟨.ptr 182, 1, [.nilp]⟩ := rfl
@[simp] theorem T181 : T 181 = some ⟨.struct [(0, 180), (1, 176)] false, 2, [.nilp, .frz 1 (some true) []]⟩ := rfl
@[simp] theorem T182 : T 182 = some ⟨.struct [(0, 180), (1, 176)] false, 2, [.nilp, .frz 1 (some true) []]⟩ := rfl
@[simp] theorem T191 : T 191 = some ⟨.int .u64, 1, [.int .u64 0]⟩ := rfl
@[simp] theorem T193 : T 193 = some ⟨.ptr 5, 1, [.nilp]⟩ := rfl
@[simp] theorem T195 : T 195 = some ⟨.arr 256 4, 256, [.bool false, .bool false, .bool false, .bool false, .bool false, .bool false, .bool false, .bool false, .bool false, .bool false, .bool false, .bool false, .bool false, .bool false, .bool false, .bool false, .bool false, .bool false, .bool false, .bool false, .bool false, .bool false, .bool false, .bool false, .bool false, .bool false, .bool false, .bool false, .bool false, .bool false, .bool false, .bool false, .bool false, .bool false, .bool false, .bool false, .bool false, .bool false, .bool false, .bool false, .bool false, .bool false, .bool false, .bool false, .bool false, .bool false, .bool false, .bool false, .bool false, .bool false, .bool false, .bool false, .bool false, .bool false, .bool false, .bool false, .bool false, .bool false, .bool false, .bool false, .bool false, .bool false, .bool false, .bool false, .bool false, .bool false, .bool false, .bool false, .bool false, .bool false, .bool false, .bool false, .bool false, .bool false, .bool false, .bool false, .bool false, .bool false, .bool false, .bool false, .bool false, .bool false, .bool false, .bool false, .bool false, .bool false, .bool false, .bool false, .bool false, .bool false, .bool false, .bool false, .bool false, .bool false, .bool false, .bool false, .bool false, .bool false, .bool false, .bool false, .bool false, .bool false, .bool false, .bool false, .bool false, .bool false, .bool false, .bool false, .bool false, .bool false, .bool false, .bool false, .bool false, .bool false, .bool false, .bool false, .bool false, .bool false, .bool false, .bool false, .bool false, .bool false, .bool false, .bool false, .bool false, .bool false, .bool false, .bool false, .bool false, .bool false, .bool false, .bool false, .bool false, .bool false, .bool false, .bool false, .bool false, .bool false, .bool false, .bool false, .bool false, .bool false, .bool false, .bool false, .bool false, .bool false, .bool false, .bool false, .bool false, .bool false, .bool false, .bool false, .bool false, .bool false, .bool false, .bool false, .bool false, .bool false, .bool false, .bool false, .bool false, .bool false, .bool false, .bool false, .bool false, .bool false, .bool false, .bool false, .bool false, .bool false, .bool false, .bool false, .bool false, .bool false, .bool false, .bool false, .bool false, .bool false, .bool false, .bool false, .bool false, .bool false, .bool false, .bool false, .bool false, .bool false, .bool false, .bool false, .bool false, .bool false, .bool false, .bool false, .bool false, .bool false, .bool false, .bool false, .bool false, .bool false, .bool false, .bool false, .bool false, .bool false, .bool false, .bool false, .bool false, .bool false, .bool false, .bool false, .bool false, .bool false, .bool false, .bool false, .bool false, .bool false, .bool false, .bool false, .bool false, .bool false, .bool false, .bool false, .bool false, .bool false, .bool false, .bool false, .bool false, .bool false, .bool false, .bool false, .bool false, .bool false, .bool false, .bool false, .bool false, .bool false, .bool false, .bool false, .bool false, .bool false, .bool false, .bool false, .bool false, .bool false, .bool false, .bool false, .bool false, .bool false, .bool false, .bool false, .bool false, .bool false, .bool false, .bool false, .bool false, .bool false, .bool false, .bool false]⟩ := rfl
@[simp] theorem T196 : T 196 = some ⟨.arr 256 4, 256, [.bool false, .bool false, .bool false, .bool false, .bool false, .bool false, .bool false, .bool false, .bool false, .bool false, .bool false, .bool false, .bool false, .bool false, .bool false, .bool false, .bool false, .bool false, .bool false, .bool false, .bool false, .bool false, .bool false, .bool false, .bool false, .bool false, .bool false, .bool false, .bool false, .bool false, .bool false, .bool false, .bool false, .bool false, .bool false, .bool false, .bool false, .bool false, .bool false, .bool false, .bool false, .bool false, .bool false, .bool false, .bool false, .bool false, .bool false, .bool false, .bool false, .bool false, .bool false, .bool false, .bool false, .bool false, .bool false, .bool false, .bool false, .bool false, .bool false, .bool false, .bool false, .bool false, .bool false, .bool false, .bool false, .bool false, .bool false, .bool false, .bool false, .bool false, .bool false, .bool false, .bool false, .bool false, .bool false, .bool false, .bool false, .bool false, .bool false, .bool false, .bool false, .bool false, .bool false, .bool false, .bool false, .bool false, .bool false, .bool false, .bool false, .bool false, .bool false, .bool false, .bool false, .bool false, .bool false, .bool false, .bool false, .bool false, .bool false, .bool false, .bool false, .bool false, .bool false, .bool false, .bool false, .bool false, .bool false, .bool false, .bool false, .bool false, .bool false, .bool false, .bool false, .bool false, .bool false, .bool false, .bool false, .bool false, .bool false, .bool false, .bool false, .bool false, .bool false, .bool false, .bool false, .bool false, .bool false, .bool false, .bool false, .bool false, .bool false, .bool false, .bool false, .bool false, .bool false, .bool false, .bool false, .bool false, .bool false, .bool false, .bool false, .bool false, .bool false, .bool false, .bool false, .bool false, .bool false, .bool false, .bool false, .bool false, .bool false, .bool false, .bool false, .bool false, .bool false, .bool false, .bool false, .bool false, .bool false, .bool false, .bool false, .bool false, .bool false, .bool false, .bool false, .bool false, .bool false, .bool false, .bool false, .bool false, .bool false, .bool false, .bool false, .bool false, .bool false, .bool false, .bool false, .bool false, .bool false, .bool false, .bool false, .bool false, .bool false, .bool false, .bool false, .bool false, .bool false, .bool false, .bool false, .bool false, .bool false, .bool false, .bool false, .bool false, .bool false, .bool false, .bool false, .bool false, .bool false, .bool false, .bool false, .bool false, .bool false, .bool false, .bool false, .bool false, .bool false, .bool false, .bool false, .bool false, .bool false, .bool false, .bool false, .bool false, .bool false, .bool false, .bool false, .bool false, .bool false, .bool false, .bool false, .bool false, .bool false, .bool false, .bool false, .bool false, .bool false, .bool false, .bool false, .bool false, .bool false, .bool false, .bool false, .bool false, .bool false, .bool false, .bool false, .bool false, .bool false, .bool false, .bool false, .bool false, .bool false, .bool false, .bool false, .bool false, .bool false, .bool false, .bool false, .bool false, .bool false, .bool false, .bool false, .bool false, .bool false, .bool false]⟩ := rfl
@[simp] theorem T208 : T 208 = some ⟨.ptr 196, 1, [.nilp]⟩ := rfl
@[simp] theorem T209 : T 209 = some ⟨.int .u32, 1, [.int .u32 0]⟩ := rfl
@[simp] theorem T212 : T 212 = some ⟨.int .u64, 1, [.int .u64 0]⟩ := rfl
theorem tok : TOk Tryz.prog T := tabB_ok (by kernel_rfl)
theorem mixed : Tryz.prog.follows .mixedOrders = true := by kernel_rfl
def M : Modes := modes [(31, [(true, 0), (false, 0)]), (40, [(true, 0), (false, 0)]), (41, [(true, 0), (false, 0)]), (55, [(false, 4), (false, 0)]), (56, [(false, 4), (false, 0), (false, 0)]), (63, [(false, 4), (false, 0)]), (72, [(false, 4), (false, 0), (false, 0)]), (75, [(false, 4), (false, 0)]), (76, [(false, 4), (false, 0), (false, 0), (false, 0)]), (80, [(false, 4), (false, 0), (false, 0), (false, 0), (false, 0)]), (87, [(true, 4), (false, 1), (false, 1), (false, 1)]), (88, [(true, 4), (false, 0), (false, 0), (false, 0)]), (89, [(true, 0), (false, 0)]), (90, [(true, 0), (false, 0)]), (91, [(true, 0), (false, 0)]), (96, [(true, 4), (false, 1), (false, 1)]), (97, [(true, 4), (false, 0), (false, 0)]), (104, [(true, 4), (false, 0), (false, 1), (false, 1)]), (107, [(true, 0), (false, 0)]), (109, [(true, 4), (false, 0), (false, 1), (false, 3)]), (111, [(true, 0), (false, 0)]), (112, [(false, 4), (false, 0), (false, 0)]), (113, [(true, 4), (false, 1), (false, 1), (false, 1)]), (121, [(false, 4), (false, 0)]), (144, [(true, 4), (false, 0), (false, 0), (false, 0)]), (150, [(false, 4), (false, 0)]), (151, [(true, 4), (false, 0), (false, 0)]), (157, [(true, 4), (false, 1), (false, 1)]), (173, [(false, 0), (false, 1)]), (185, [(false, 4), (false, 0)]), (189, [(false, 4), (false, 0)]), (207, [(false, 4), (false, 0)]), (208, [(false, 4)])]
@[simp] theorem M0 : M 0 = [] := rfl
@[simp] theorem M1 : M 1 = [] := rfl
@[simp] theorem M2 : M 2 = [] := rfl
@[simp] theorem M3 : M 3 = [] := rfl
@[simp] theorem M4 : M 4 = [] := rfl
@[simp] theorem M5 : M 5 = [] := rfl
@[simp] theorem M6 : M 6 = [] := rfl
@[simp] theorem M7 : M 7 = [] := rfl
@[simp] theorem M8 : M 8 = [] := rfl
@[simp] theorem M9 : M 9 = [] := rfl
@[simp] theorem M10 : M 10 = [] := rfl
@[simp] theorem M11 : M 11 = [] := rfl
@[simp] theorem M12 : M 12 = [] := rfl
@[simp] theorem M13 : M 13 = [] := rfl
@[simp] theorem M14 : M 14 = [] := rfl
@[simp] theorem M15 : M 15 = [] := rfl
@[simp] theorem M16 : M 16 = [] := rfl
@[simp] theorem M17 : M 17 = [] := rfl
@[simp] theorem M18 : M 18 = [] := rfl
@[simp] theorem M19 : M 19 = [] := rfl
@[simp] theorem M20 : M 20 = [] := rfl
@[simp] theorem M21 : M 21 = [] := rfl
@[simp] theorem M22 : M 22 = [] := rfl
@[simp] theorem M23 : M 23 = [] := rfl
@[simp] theorem M24 : M 24 = [] := rfl
@[simp] theorem M25 : M 25 = [] := rfl
@[simp] theorem M26 : M 26 = [] := rfl
@[simp] theorem M27 : M 27 = [] := rfl
@[simp] theorem M28 : M 28 = [] := rfl
@[simp] theorem M29 : M 29 = [] := rfl
@[simp] theorem M30 : M 30 = [] := rfl
@[simp] theorem M31 : M 31 = [(true, 0), (false, 0)] := rfl
@[simp] theorem M32 : M 32 = [] := rfl
@[simp] theorem M33 : M 33 = [] := rfl
@[simp] theorem M34 : M 34 = [] := rfl
@[simp] theorem M35 : M 35 = [] := rfl
@[simp] theorem M36 : M 36 = [] := rfl
@[simp] theorem M37 : M 37 = [] := rfl
@[simp] theorem M38 : M 38 = [] := rfl
@[simp] theorem M39 : M 39 = [] := rfl
@[simp] theorem M40 : M 40 = [(true, 0), (false, 0)] := rfl
@[simp] theorem M41 : M 41 = [(true, 0), (false, 0)] := rfl
@[simp] theorem M42 : M 42 = [] := rfl
@[simp] theorem M43 : M 43 = [] := rfl
@[simp] theorem M44 : M 44 = [] := rfl
@[simp] theorem M45 : M 45 = [] := rfl
@[simp] theorem M46 : M 46 = [] := rfl
@[simp] theorem M47 : M 47 = [] := rfl
@[simp] theorem M48 : M 48 = [] := rfl
@[simp] theorem M49 : M 49 = [] := rfl
@[simp] theorem M50 : M 50 = [] := rfl
@[simp] theorem M51 : M 51 = [] := rfl
@[simp] theorem M52 : M 52 = [] := rfl
@[simp] theorem M53 : M 53 = [] := rfl
@[simp] theorem M54 : M 54 = [] := rfl
@[simp] theorem M55 : M 55 = [(false, 4), (false, 0)] := rfl
@[simp] theorem M56 : M 56 = [(false, 4), (false, 0), (false, 0)] := rfl
@[simp] theorem M57 : M 57 = [] := rfl
@[simp] theorem M58 : M 58 = [] := rfl
@[simp] theorem M59 : M 59 = [] := rfl
@[simp] theorem M60 : M 60 = [] := rfl
@[simp] theorem M61 : M 61 = [] := rfl
@[simp] theorem M62 : M 62 = [] := rfl
@[simp] theorem M63 : M 63 = [(false, 4), (false, 0)] := rfl
@[simp] theorem M64 : M 64 = [] := rfl
@[simp] theorem M65 : M 65 = [] := rfl
@[simp] theorem M66 : M 66 = [] := rfl
@[simp] theorem M67 : M 67 = [] := rfl
@[simp] theorem M68 : M 68 = [] := rfl
@[simp] theorem M69 : M 69 = [] := rfl
@[simp] theorem M70 : M 70 = [] := rfl
@[simp] theorem M71 : M 71 = [] := rfl
@[simp] theorem M72 : M 72 = [(false, 4), (false, 0), (false, 0)] := rfl
@[simp] theorem M73 : M 73 = [] := rfl
@[simp] theorem M74 : M 74 = [] := rfl
@[simp] theorem M75 : M 75 = [(false, 4), (false, 0)] := rfl
@[simp] theorem M76 : M 76 = [(false, 4), (false, 0), (false, 0), (false, 0)] := rfl
@[simp] theorem M77 : M 77 = [] := rfl
@[simp] theorem M78 : M 78 = [] := rfl
@[simp] theorem M79 : M 79 = [] := rfl
@[simp] theorem M80 : M 80 = [(false, 4), (false, 0), (false, 0), (false, 0), (false, 0)] := rfl
@[simp] theorem M81 : M 81 = [] := rfl
@[simp] theorem M82 : M 82 = [] := rfl
@[simp] theorem M83 : M 83 = [] := rfl
@[simp] theorem M84 : M 84 = [] := rfl
@[simp] theorem M85 : M 85 = [] := rfl
@[simp] theorem M86 : M 86 = [] := rfl
@[simp] theorem M87 : M 87 = [(true, 4), (false, 1), (false, 1), (false, 1)] := rfl
@[simp] theorem M88 : M 88 = [(true, 4), (false, 0), (false, 0), (false, 0)] := rfl
@[simp] theorem M89 : M 89 = [(true, 0), (false, 0)] := rfl
@[simp] theorem M90 : M 90 = [(true, 0), (false, 0)] := rfl
@[simp] theorem M91 : M 91 = [(true, 0), (false, 0)] := rfl
@[simp] theorem M92 : M 92 = [] := rfl
@[simp] theorem M93 : M 93 = [] := rfl
@[simp] theorem M94 : M 94 = [] := rfl
@[simp] theorem M95 : M 95 = [] := rfl
@[simp] theorem M96 : M 96 = [(true, 4), (false, 1), (false, 1)] := rfl
@[simp] theorem M97 : M 97 = [(true, 4), (false, 0), (false, 0)] := rfl
@[simp] theorem M98 : M 98 = [] := rfl
@[simp] theorem M99 : M 99 = [] := rfl
@[simp] theorem M100 : M 100 = [] := rfl
@[simp] theorem M101 : M 101 = [] := rfl
@[simp] theorem M102 : M 102 = [] := rfl
@[simp] theorem M103 : M 103 = [] := rfl
@[simp] theorem M104 : M 104 = [(true, 4), (false, 0), (false, 1), (false, 1)] := rfl
@[simp] theorem M105 : M 105 = [] := rfl
@[simp] theorem M106 : M 106 = [] := rfl
@[simp] theorem M107 : M 107 = [(true, 0), (false, 0)] := rfl
@[simp] theorem M108 : M 108 = [] := rfl
@[simp] theorem M109 : M 109 = [(true, 4), (false, 0), (false, 1), (false, 3)] := rfl
@[simp] theorem M110 : M 110 = [] := rfl
@[simp] theorem M111 : M 111 = [(true, 0), (false, 0)] := rfl
@[simp] theorem M112 : M 112 = [(false, 4), (false, 0), (false, 0)] := rfl
@[simp] theorem M113 : M 113 = [(true, 4), (false, 1), (false, 1), (false, 1)] := rfl
@[simp] theorem M114 : M 114 = [] := rfl
@[simp] theorem M115 : M 115 = [] := rfl
@[simp] theorem M116 : M 116 = [] := rfl
@[simp] theorem M117 : M 117 = [] := rfl
@[simp] theorem M118 : M 118 = [] := rfl
@[simp] theorem M119 : M 119 = [] := rfl
@[simp] theorem M120 : M 120 = [] := rfl
@[simp] theorem M121 : M 121 = [(false, 4), (false, 0)] := rfl
@[simp] theorem M122 : M 122 = [] := rfl
@[simp] theorem M123 : M 123 = [] := rfl
@[simp] theorem M124 : M 124 = [] := rfl
@[simp] theorem M125 : M 125 = [] := rfl
@[simp] theorem M126 : M 126 = [] := rfl
@[simp] theorem M127 : M 127 = [] := rfl
@[simp] theorem M128 : M 128 = [] := rfl
@[simp] theorem M129 : M 129 = [] := rfl
@[simp] theorem M130 : M 130 = [] := rfl
@[simp] theorem M131 : M 131 = [] := rfl
@[simp] theorem M132 : M 132 = [] := rfl
@[simp] theorem M133 : M 133 = [] := rfl
@[simp] theorem M134 : M 134 = [] := rfl
@[simp] theorem M135 : M 135 = [] := rfl
@[simp] theorem M136 : M 136 = [] := rfl
@[simp] theorem M137 : M 137 = [] := rfl
@[simp] theorem M138 : M 138 = [] := rfl
@[simp] theorem M139 : M 139 = [] := rfl
@[simp] theorem M140 : M 140 = [] := rfl
@[simp] theorem M141 : M 141 = [] := rfl
@[simp] theorem M142 : M 142 = [] := rfl
@[simp] theorem M143 : M 143 = [] := rfl
@[simp] theorem M144 : M 144 = [(true, 4), (false, 0), (false, 0), (false, 0)] := rfl
@[simp] theorem M145 : M 145 = [] := rfl
@[simp] theorem M146 : M 146 = [] := rfl
@[simp] theorem M147 : M 147 = [] := rfl
@[simp] theorem M148 : M 148 = [] := rfl
@[simp] theorem M149 : M 149 = [] := rfl
@[simp] theorem M150 : M 150 = [(false, 4), (false, 0)] := rfl
@[simp] theorem M151 : M 151 = [(true, 4), (false, 0), (false, 0)] := rfl
@[simp] theorem M152 : M 152 = [] := rfl
@[simp] theorem M153 : M 153 = [] := rfl
@[simp] theorem M154 : M 154 = [] := rfl
@[simp] theorem M155 : M 155 = [] := rfl
@[simp] theorem M156 : M 156 = [] := rfl
@[simp] theorem M157 : M 157 = [(true, 4), (false, 1), (false, 1)] := rfl
@[simp] theorem M158 : M 158 = [] := rfl
@[simp] theorem M159 : M 159 = [] := rfl
@[simp] theorem M160 : M 160 = [] := rfl
@[simp] theorem M161 : M 161 = [] := rfl
@[simp] theorem M162 : M 162 = [] := rfl
@[simp] theorem M163 : M 163 = [] := rfl
@[simp] theorem M164 : M 164 = [] := rfl
@[simp] theorem M165 : M 165 = [] := rfl
@[simp] theorem M166 : M 166 = [] := rfl
@[simp] theorem M167 : M 167 = [] := rfl
@[simp] theorem M168 : M 168 = [] := rfl
@[simp] theorem M169 : M 169 = [] := rfl
@[simp] theorem M170 : M 170 = [] := rfl
@[simp] theorem M171 : M 171 = [] := rfl
@[simp] theorem M172 : M 172 = [] := rfl
@[simp] theorem M173 : M 173 = [(false, 0), (false, 1)] := rfl
@[simp] theorem M174 : M 174 = [] := rfl
@[simp] theorem M175 : M 175 = [] := rfl
@[simp] theorem M176 : M 176 = [] := rfl
@[simp] theorem M177 : M 177 = [] := rfl
@[simp] theorem M178 : M 178 = [] := rfl
@[simp] theorem M179 : M 179 = [] := rfl
@[simp] theorem M180 : M 180 = [] := rfl
@[simp] theorem M181 : M 181 = [] := rfl
@[simp] theorem M182 : M 182 = [] := rfl
@[simp] theorem M183 : M 183 = [] := rfl
@[simp] theorem M184 : M 184 = [] := rfl
@[simp] theorem M185 : M 185 = [(false, 4), (false, 0)] := rfl
@[simp] theorem M186 : M 186 = [] := rfl
@[simp] theorem M187 : M 187 = [] := rfl
@[simp] theorem M188 : M 188 = [] := rfl
@[simp] theorem M189 : M 189 = [(false, 4), (false, 0)] := rfl
@[simp] theorem M190 : M 190 = [] := rfl
@[simp] theorem M191 : M 191 = [] := rfl
@[simp] theorem M192 : M 192 = [] := rfl
@[simp] theorem M193 : M 193 = [] := rfl
@[simp] theorem M194 : M 194 = [] := rfl
@[simp] theorem M195 : M 195 = [] := rfl
@[simp] theorem M196 : M 196 = [] := rfl
@[simp] theorem M197 : M 197 = [] := rfl
@[simp] theorem M198 : M 198 = [] := rfl
@[simp] theorem M199 : M 199 = [] := rfl
@[simp] theorem M200 : M 200 = [] := rfl
@[simp] theorem M201 : M 201 = [] := rfl
@[simp] theorem M202 : M 202 = [] := rfl
@[simp] theorem M203 : M 203 = [] := rfl
@[simp] theorem M204 : M 204 = [] := rfl
@[simp] theorem M205 : M 205 = [] := rfl
@[simp] theorem M206 : M 206 = [] := rfl
@[simp] theorem M207 : M 207 = [(false, 4), (false, 0)] := rfl
@[simp] theorem M208 : M 208 = [(false, 4)] := rfl
@[simp] theorem M209 : M 209 = [] := rfl
@[simp] theorem M210 : M 210 = [] := rfl
@[simp] theorem M211 : M 211 = [] := rfl
@[simp] theorem M212 : M 212 = [] := rfl
@[simp] theorem M213 : M 213 = [] := rfl
@[simp] theorem M214 : M 214 = [] := rfl
@[simp] theorem M215 : M 215 = [] := rfl
@[simp] theorem M216 : M 216 = [] := rfl
@[simp] theorem M217 : M 217 = [] := rfl
@[simp] theorem M218 : M 218 = [] := rfl
@[simp] theorem M219 : M 219 = [] := rfl
@[simp] theorem M220 : M 220 = [] := rfl
@[simp] theorem M221 : M 221 = [] := rfl
@[simp] theorem M222 : M 222 = [] := rfl
@[simp] theorem M223 : M 223 = [] := rfl
@[simp] theorem M224 : M 224 = [] := rfl
@[simp] theorem M225 : M 225 = [] := rfl
@[simp] theorem M226 : M 226 = [] := rfl
@[simp] theorem M227 : M 227 = [] := rfl
@[simp] theorem M228 : M 228 = [] := rfl
@[simp] theorem M229 : M 229 = [] := rfl
@[simp] theorem M242 : M 242 = [] := rfl
@[simp] theorem M243 : M 243 = [] := rfl
@[simp] theorem M244 : M 244 = [] := rfl
@[simp] theorem M245 : M 245 = [] := rfl
@[simp] theorem M246 : M 246 = [] := rfl
@[simp] theorem M247 : M 247 = [] := rfl
abbrev K := Con Tryz.prog
theorem ks : Sound Tryz.prog K := con_sound
end Go.Proofs.YtiafmpcmmohdkaaGreat
