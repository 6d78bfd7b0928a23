/- The seat's base: its types, its modes. Written by base.py. -/
import Derived.Test.YtpofjodnljeegaaFz
import Derived.Test.YtpofjodnljeegaaProg
import Derived.KernelRfl
namespace Go.Proofs.Ytpofjodnljeegaa
open Go.Fw
set_option linter.unusedVariables false
def rowsT : List (TypeId × TI) := [(2, ⟨.int .i64, 1, [.int .i64 0]⟩),
  (3, ⟨.int .i64, 1, [.int .i64 0]⟩),
  (4, ⟨.bool, 1, [.bool false]⟩),
  (5, ⟨.int .u8, 1, [.int .u8 0]⟩),
  (9, ⟨.str, 1, [.str []]⟩),
  (12, ⟨.int .u64, 1, [.int .u64 0]⟩),
  (21, ⟨.int .i32, 1, [.int .i32 0]⟩),
  (22, ⟨.slice 88, 1, [.frz 2 (some true) []]⟩),
  (23, ⟨.slice 107, 1, [.frz 10 (some true) []]⟩),
  (24, ⟨.slice 9, 1, [.frz 1 (some true) []]⟩),
  (25, ⟨.struct [(0, 3), (1, 22), (2, 23), (3, 24)] false, 4, [.int .i64 0, .frz 2 (some true) [], .frz 10 (some true) [], .frz 1 (some true) []]⟩),
  (26, ⟨.struct [(0, 3), (1, 22), (2, 23), (3, 24)] false, 4, [.int .i64 0, .frz 2 (some true) [], .frz 10 (some true) [], .frz 1 (some true) []]⟩),
  (28, ⟨.slice 86, 1, [.frz 2 (some true) []]⟩),
  (29, ⟨.slice 82, 1, [.frz 10 (some true) []]⟩),
  (30, ⟨.struct [(0, 3), (1, 28), (2, 29), (3, 24)] false, 4, [.int .i64 0, .frz 2 (some true) [], .frz 10 (some true) [], .frz 1 (some true) []]⟩),
  (31, ⟨.struct [(0, 3), (1, 28), (2, 29), (3, 24)] false, 4, [.int .i64 0, .frz 2 (some true) [], .frz 10 (some true) [], .frz 1 (some true) []]⟩),
  (46, ⟨.slice 3, 1, [.frz 1 (some true) []]⟩),
  (52, ⟨.slice 133, 1, [.frz 4 (some true) []]⟩),
  (53, ⟨.struct [(0, 26), (4, 52)] false, 5, [.int .i64 0, .frz 2 (some true) [], .frz 10 (some true) [], .frz 1 (some true) [], .frz 4 (some true) []]⟩),
  (54, ⟨.struct [(0, 26), (4, 52)] false, 5, [.int .i64 0, .frz 2 (some true) [], .frz 10 (some true) [], .frz 1 (some true) [], .frz 4 (some true) []]⟩),
  (57, ⟨.slice 137, 1, [.frz 4 (some true) []]⟩),
  (58, ⟨.struct [(0, 31), (4, 57)] false, 5, [.int .i64 0, .frz 2 (some true) [], .frz 10 (some true) [], .frz 1 (some true) [], .frz 4 (some true) []]⟩),
  (59, ⟨.struct [(0, 31), (4, 57)] false, 5, [.int .i64 0, .frz 2 (some true) [], .frz 10 (some true) [], .frz 1 (some true) [], .frz 4 (some true) []]⟩),
  (74, ⟨.ptr 31, 1, [.nilp]⟩),
  (80, ⟨.slice 151, 1, [.frz 3 (some true) []]⟩),
  (81, ⟨.struct [(0, 3), (1, 3), (2, 3), (3, 3), (4, 3), (5, 3), (6, 3), (7, 46), (8, 80), (9, 80)] false, 10, [.int .i64 0, .int .i64 0, .int .i64 0, .int .i64 0, .int .i64 0, .int .i64 0, .int .i64 0, .frz 1 (some true) [], .frz 3 (some true) [], .frz 3 (some true) []]⟩),
  (82, ⟨.struct [(0, 3), (1, 3), (2, 3), (3, 3), (4, 3), (5, 3), (6, 3), (7, 46), (8, 80), (9, 80)] false, 10, [.int .i64 0, .int .i64 0, .int .i64 0, .int .i64 0, .int .i64 0, .int .i64 0, .int .i64 0, .frz 1 (some true) [], .frz 3 (some true) [], .frz 3 (some true) []]⟩),
  (85, ⟨.struct [(0, 3), (1, 3)] true, 2, [.int .i64 0, .int .i64 0]⟩),
  (86, ⟨.struct [(0, 3), (1, 3)] true, 2, [.int .i64 0, .int .i64 0]⟩),
  (88, ⟨.struct [(0, 3), (1, 3)] true, 2, [.int .i64 0, .int .i64 0]⟩),
  (105, ⟨.slice 168, 1, [.frz 3 (some true) []]⟩),
  (106, ⟨.struct [(0, 3), (1, 3), (2, 3), (3, 3), (4, 3), (5, 3), (6, 3), (7, 46), (8, 105), (9, 105)] false, 10, [.int .i64 0, .int .i64 0, .int .i64 0, .int .i64 0, .int .i64 0, .int .i64 0, .int .i64 0, .frz 1 (some true) [], .frz 3 (some true) [], .frz 3 (some true) []]⟩),
  (107, ⟨.struct [(0, 3), (1, 3), (2, 3), (3, 3), (4, 3), (5, 3), (6, 3), (7, 46), (8, 105), (9, 105)] false, 10, [.int .i64 0, .int .i64 0, .int .i64 0, .int .i64 0, .int .i64 0, .int .i64 0, .int .i64 0, .frz 1 (some true) [], .frz 3 (some true) [], .frz 3 (some true) []]⟩),
  (114, ⟨.slice 5, 1, [.frz 1 (some true) []]⟩),
  (116, ⟨.slice 4, 1, [.frz 1 (some true) []]⟩),
  (120, ⟨.int .u64, 1, [.int .u64 0]⟩),
  (123, ⟨.arr 56 4, 56, [.bool false, .bool false, .bool false, .bool false, .bool false, .bool false, .bool false, .bool false, .bool false, .bool false, .bool false, .bool false, .bool false, .bool false, .bool false, .bool false, .bool false, .bool false, .bool false, .bool false, .bool false, .bool false, .bool false, .bool false, .bool false, .bool false, .bool false, .bool false, .bool false, .bool false, .bool false, .bool false, .bool false, .bool false, .bool false, .bool false, .bool false, .bool false, .bool false, .bool false, .bool false, .bool false, .bool false, .bool false, .bool false, .bool false, .bool false, .bool false, .bool false, .bool false, .bool false, .bool false, .bool false, .bool false, .bool false, .bool false]⟩),
  (124, ⟨.ptr 82, 1, [.nilp]⟩),
  (129, ⟨.struct [(0, 3), (1, 3), (2, 46)] false, 3, [.int .i64 0, .int .i64 0, .frz 1 (some true) []]⟩),
  (130, ⟨.struct [(0, 3), (1, 3), (2, 46)] false, 3, [.int .i64 0, .int .i64 0, .frz 1 (some true) []]⟩),
  (131, ⟨.slice 173, 1, [.frz 3 (some true) []]⟩),
  (132, ⟨.struct [(0, 130), (3, 131)] false, 4, [.int .i64 0, .int .i64 0, .frz 1 (some true) [], .frz 3 (some true) []]⟩),
  (133, ⟨.struct [(0, 130), (3, 131)] false, 4, [.int .i64 0, .int .i64 0, .frz 1 (some true) [], .frz 3 (some true) []]⟩),
  (134, ⟨.struct [(0, 3), (1, 3), (2, 46)] false, 3, [.int .i64 0, .int .i64 0, .frz 1 (some true) []]⟩),
  (135, ⟨.slice 140, 1, [.frz 3 (some true) []]⟩),
  (136, ⟨.struct [(0, 134), (3, 135)] false, 4, [.int .i64 0, .int .i64 0, .frz 1 (some true) [], .frz 3 (some true) []]⟩),
  (137, ⟨.struct [(0, 134), (3, 135)] false, 4, [.int .i64 0, .int .i64 0, .frz 1 (some true) [], .frz 3 (some true) []]⟩),
  (139, ⟨.struct [(0, 3), (1, 3), (2, 3)] true, 3, [.int .i64 0, .int .i64 0, .int .i64 0]⟩),
  (140, ⟨.struct [(0, 3), (1, 3), (2, 3)] true, 3, [.int .i64 0, .int .i64 0, .int .i64 0]⟩),
  (143, ⟨.ptr 59, 1, [.nilp]⟩),
  (150, ⟨.struct [(0, 3), (1, 3), (2, 3)] true, 3, [.int .i64 0, .int .i64 0, .int .i64 0]⟩),
  (151, ⟨.struct [(0, 3), (1, 3), (2, 3)] true, 3, [.int .i64 0, .int .i64 0, .int .i64 0]⟩),
  (154, ⟨.int .u32, 1, [.int .u32 0]⟩),
  (157, ⟨.int .u64, 1, [.int .u64 0]⟩),
  (168, ⟨.struct [(0, 3), (1, 3), (2, 3)] true, 3, [.int .i64 0, .int .i64 0, .int .i64 0]⟩),
  (173, ⟨.struct [(0, 3), (1, 3), (2, 3)] true, 3, [.int .i64 0, .int .i64 0, .int .i64 0]⟩),
  (185, ⟨.ptr 5, 1, [.nilp]⟩)]
def T : Types := tab rowsT
@[simp] theorem T2 : T 2 = some ⟨.int .i64, 1, [.int .i64 0]⟩ := rfl
@[simp] theorem T3 : T 3 = some ⟨.int .i64, 1, [.int .i64 0]⟩ := rfl
@[simp] theorem T4 : T 4 = some ⟨.bool, 1, [.bool false]⟩ := rfl
@[simp] theorem T5 : T 5 = some ⟨.int .u8, 1, [.int .u8 0]⟩ := rfl
@[simp] theorem T9 : T 9 = some ⟨.str, 1, [.str []]⟩ := rfl
@[simp] theorem T12 : T 12 = some ⟨.int .u64, 1, [.int .u64 0]⟩ := rfl
@[simp] theorem T21 : T 21 = some ⟨.int .i32, 1, [.int .i32 0]⟩ := rfl
@[simp] theorem T22 : T 22 = some ⟨.slice 88, 1, [.frz 2 (some true) []]⟩ := rfl
@[simp] theorem T23 : T 23 = some ⟨.slice 107, 1, [.frz 10 (some true) []]⟩ := rfl
@[simp] theorem T24 : T 24 = some ⟨.slice 9, 1, [.frz 1 (some true) []]⟩ := rfl
@[simp] theorem T25 : T 25 = some ⟨.struct [(0, 3), (1, 22), (2, 23), (3, 24)] false, 4, [.int .i64 0, .frz 2 (some true) [], .frz 10 (some true) [], .frz 1 (some true) []]⟩ := rfl
@[simp] theorem T26 : T 26 = some ⟨.struct [(0, 3), (1, 22), (2, 23), (3, 24)] false, 4, [.int .i64 0, .frz 2 (some true) [], .frz 10 (some true) [], .frz 1 (some true) []]⟩ := rfl
@[simp] theorem T28 : T 28 = some ⟨.slice 86, 1, [.frz 2 (some true) []]⟩ := rfl
@[simp] theorem T29 : T 29 = some ⟨.slice 82, 1, [.frz 10 (some true) []]⟩ := rfl
@[simp] theorem T30 : T 30 = some ⟨.struct [(0, 3), (1, 28), (2, 29), (3, 24)] false, 4, [.int .i64 0, .frz 2 (some true) [], .frz 10 (some true) [], .frz 1 (some true) []]⟩ := rfl
@[simp] theorem T31 : T 31 = some ⟨.struct [(0, 3), (1, 28), (2, 29), (3, 24)] false, 4, [.int .i64 0, .frz 2 (some true) [], .frz 10 (some true) [], .frz 1 (some true) []]⟩ := rfl
@[simp] theorem T46 : T 46 = some ⟨.slice 3, 1, [.frz 1 (some true) []]⟩ := rfl
@[simp] theorem T52 : T 52 = some ⟨.slice 133, 1, [.frz 4 (some true) []]⟩ := rfl
@[simp] theorem T53 : T 53 = some ⟨.struct [(0, 26), (4, 52)] false, 5, [.int .i64 0, .frz 2 (some true) [], .frz 10 (some true) [], .frz 1 (some true) [], .frz 4 (some true) []]⟩ := rfl
@[simp] theorem T54 : T 54 = some ⟨.struct [(0, 26), (4, 52)] false, 5, [.int .i64 0, .frz 2 (some true) [], .frz 10 (some true) [], .frz 1 (some true) [], .frz 4 (some true) []]⟩ := rfl
@[simp] theorem T57 : T 57 = some ⟨.slice 137, 1, [.frz 4 (some true) []]⟩ := rfl
@[simp] theorem T58 : T 58 = some ⟨.struct [(0, 31), (4, 57)] false, 5, [.int .i64 0, .frz 2 (some true) [], .frz 10 (some true) [], .frz 1 (some true) [], .frz 4 (some true) []]⟩ := rfl
@[simp] theorem T59 : T 59 = some ⟨.struct [(0, 31), (4, 57)] false, 5, [.int .i64 0, .frz 2 (some true) [], .frz 10 (some true) [], .frz 1 (some true) [], .frz 4 (some true) []]⟩ := rfl
@[simp] theorem T74 : T 74 = some ⟨.ptr 31, 1, [.nilp]⟩ := rfl
@[simp] theorem T80 : T 80 = some ⟨.slice 151, 1, [.frz 3 (some true) []]⟩ := rfl
@[simp] theorem T81 : T 81 = some ⟨.struct [(0, 3), (1, 3), (2, 3), (3, 3), (4, 3), (5, 3), (6, 3), (7, 46), (8, 80), (9, 80)] false, 10, [.int .i64 0, .int .i64 0, .int .i64 0, .int .i64 0, .int .i64 0, .int .i64 0, .int .i64 0, .frz 1 (some true) [], .frz 3 (some true) [], .frz 3 (some true) []]⟩ := rfl
@[simp] theorem T82 : T 82 = some ⟨.struct [(0, 3), (1, 3), (2, 3), (3, 3), (4, 3), (5, 3), (6, 3), (7, 46), (8, 80), (9, 80)] false, 10, [.int .i64 0, .int .i64 0, .int .i64 0, .int .i64 0, .int .i64 0, .int .i64 0, .int .i64 0, .frz 1 (some true) [], .frz 3 (some true) [], .frz 3 (some true) []]⟩ := rfl
@[simp] theorem T85 : T 85 = some ⟨.struct [(0, 3), (1, 3)] true, 2, [.int .i64 0, .int .i64 0]⟩ := rfl
@[simp] theorem T86 : T 86 = some ⟨.struct [(0, 3), (1, 3)] true, 2, [.int .i64 0, .int .i64 0]⟩ := rfl
@[simp] theorem T88 : T 88 = some ⟨.struct [(0, 3), (1, 3)] true, 2, [.int .i64 0, .int .i64 0]⟩ := rfl
@[simp] theorem T105 : T 105 = some ⟨.slice 168, 1, [.frz 3 (some true) []]⟩ := rfl
@[simp] theorem T106 : T 106 = some ⟨.struct [(0, 3), (1, 3), (2, 3), (3, 3), (4, 3), (5, 3), (6, 3), (7, 46), (8, 105), (9, 105)] false, 10, [.int .i64 0, .int .i64 0, .int .i64 0, .int .i64 0, .int .i64 0, .int .i64 0, .int .i64 0, .frz 1 (some true) [], .frz 3 (some true) [], .frz 3 (some true) []]⟩ := rfl
@[simp] theorem T107 : T 107 = some ⟨.struct [(0, 3), (1, 3), (2, 3), (3, 3), (4, 3), (5, 3), (6, 3), (7, 46), (8, 105), (9, 105)] false, 10, [.int .i64 0, .int .i64 0, .int .i64 0, .int .i64 0, .int .i64 0, .int .i64 0, .int .i64 0, .frz 1 (some true) [], .frz 3 (some true) [], .frz 3 (some true) []]⟩ := rfl
@[simp] theorem T114 : T 114 = some ⟨.slice 5, 1, [.frz 1 (some true) []]⟩ := rfl
@[simp] theorem T116 : T 116 = some ⟨.slice 4, 1, [.frz 1 (some true) []]⟩ := rfl
@[simp] theorem T120 : T 120 = some ⟨.int .u64, 1, [.int .u64 0]⟩ := rfl
@[simp] theorem T123 : T 123 = some ⟨.arr 56 4, 56, [.bool false, .bool false, .bool false, .bool false, .bool false, .bool false, .bool false, .bool false, .bool false, .bool false, .bool false, .bool false, .bool false, .bool false, .bool false, .bool false, .bool false, .bool false, .bool false, .bool false, .bool false, .bool false, .bool false, .bool false, .bool false, .bool false, .bool false, .bool false, .bool false, .bool false, .bool false, .bool false, .bool false, .bool false, .bool false, .bool false, .bool false, .bool false, .bool false, .bool false, .bool false, .bool false, .bool false, .bool false, .bool false, .bool false, .bool false, .bool false, .bool false, .bool false, .bool false, .bool false, .bool false, .bool false, .bool false, .bool false]⟩ := rfl
@[simp] theorem T124 : T 124 = some ⟨.ptr 82, 1, [.nilp]⟩ := rfl
@[simp] theorem T129 : T 129 = some ⟨.struct [(0, 3), (1, 3), (2, 46)] false, 3, [.int .i64 0, .int .i64 0, .frz 1 (some true) []]⟩ := rfl
@[simp] theorem T130 : T 130 = some ⟨.struct [(0, 3), (1, 3), (2, 46)] false, 3, [.int .i64 0, .int .i64 0, .frz 1 (some true) []]⟩ := rfl
@[simp] theorem T131 : T 131 = some ⟨.slice 173, 1, [.frz 3 (some true) []]⟩ := rfl
@[simp] theorem T132 : T 132 = some ⟨.struct [(0, 130), (3, 131)] false, 4, [.int .i64 0, .int .i64 0, .frz 1 (some true) [], .frz 3 (some true) []]⟩ := rfl
@[simp] theorem T133 : T 133 = some ⟨.struct [(0, 130), (3, 131)] false, 4, [.int .i64 0, .int .i64 0, .frz 1 (some true) [], .frz 3 (some true) []]⟩ := rfl
@[simp] theorem T134 : T 134 = some ⟨.struct [(0, 3), (1, 3), (2, 46)] false, 3, [.int .i64 0, .int .i64 0, .frz 1 (some true) []]⟩ := rfl
@[simp] theorem T135 : T 135 = some ⟨.slice 140, 1, [.frz 3 (some true) []]⟩ := rfl
@[simp] theorem T136 : T 136 = some ⟨.struct [(0, 134), (3, 135)] false, 4, [.int .i64 0, .int .i64 0, .frz 1 (some true) [], .frz 3 (some true) []]⟩ := rfl
@[simp] theorem T137 : T 137 = some ⟨.struct [(0, 134), (3, 135)] false, 4, [.int .i64 0, .int .i64 0, .frz 1 (some true) [], .frz 3 (some true) []]⟩ := rfl
@[simp] theorem T139 : T 139 = some ⟨.struct [(0, 3), (1, 3), (2, 3)] true, 3, [.int .i64 0, .int .i64 0, .int .i64 0]⟩ := rfl
@[simp] theorem T140 : T 140 = some ⟨.struct [(0, 3), (1, 3), (2, 3)] true, 3, [.int .i64 0, .int .i64 0, .int .i64 0]⟩ := rfl
@[simp] theorem T143 : T 143 = some ⟨.ptr 59, 1, [.nilp]⟩ := rfl
@[simp] theorem T150 : T 150 = some ⟨.struct [(0, 3), (1, 3), (2, 3)] true, 3, [.int .i64 0, .int .i64 0, .int .i64 0]⟩ := rfl
@[simp] theorem T151 : T 151 = some ⟨.struct [(0, 3), (1, 3), (2, 3)] true, 3, [.int .i64 0, .int .i64 0, .int .i64 0]⟩ := rfl
@[simp] theorem T154 : T 154 = some ⟨.int .u32, 1, [.int .u32 0]⟩ := rfl
@[simp] theorem T157 : T 157 = some ⟨.int .u64, 1, [.int .u64 0]⟩ := rfl
@[simp] theorem T168 : T 168 = some ⟨.struct [(0, 3), (1, 3), (2, 3)] true, 3, [.int .i64 0, .int .i64 0, .int .i64 0]⟩ := rfl
@[simp] theorem T173 : T 173 = some ⟨.struct [(0, 3), (1, 3), (2, 3)] true, 3, [.int .i64 0, .int .i64 0, .int .i64 0]⟩ := rfl
@[simp] theorem T185 : T 185 = some ⟨.ptr 5, 1, [.nilp]⟩ := rfl
theorem tok : TOk Try.prog T := tabB_ok (by kernel_rfl)
theorem mixed : Try.prog.follows .mixedOrders = true := by kernel_rfl
def M : Modes := modes [(15, [(true, 0), (false, 0)]), (22, [(true, 0), (false, 0)]), (29, [(true, 0), (false, 0)]), (37, [(true, 0), (false, 0)]), (51, [(true, 4), (false, 1)]), (52, [(true, 4), (false, 0)]), (55, [(true, 0), (false, 0)]), (56, [(true, 0), (false, 0)]), (69, [(true, 4), (false, 1), (false, 1)]), (70, [(true, 4), (false, 0), (false, 0)]), (77, [(true, 4), (false, 1), (false, 1)]), (78, [(true, 4), (false, 0), (false, 0)]), (84, [(false, 5), (false, 0)]), (86, [(true, 0), (false, 0)]), (88, [(true, 4), (false, 1), (false, 1), (false, 1)]), (89, [(true, 4), (false, 0), (false, 0), (false, 0)]), (94, [(false, 4), (false, 0)]), (99, [(true, 0), (false, 0)]), (114, [(false, 4), (false, 0)]), (120, [(false, 4), (false, 0)]), (122, [(true, 0), (false, 0)]), (143, [(false, 4), (false, 0)]), (144, [(false, 4)])]
@[simp] theorem M0 : M 0 = [] := rfl
@[simp] theorem M1 : M 1 = [] := rfl
@[simp] theorem M2 : M 2 = [] := rfl
@[simp] theorem M3 : M 3 = [] := rfl
@[simp] theorem M4 : M 4 = [] := rfl
@[simp] theorem M5 : M 5 = [] := rfl
@[simp] theorem M6 : M 6 = [] := rfl
@[simp] theorem M7 : M 7 = [] := rfl
@[simp] theorem M8 : M 8 = [] := rfl
@[simp] theorem M9 : M 9 = [] := rfl
@[simp] theorem M10 : M 10 = [] := rfl
@[simp] theorem M11 : M 11 = [] := rfl
@[simp] theorem M12 : M 12 = [] := rfl
@[simp] theorem M13 : M 13 = [] := rfl
@[simp] theorem M14 : M 14 = [] := rfl
@[simp] theorem M15 : M 15 = [(true, 0), (false, 0)] := rfl
@[simp] theorem M16 : M 16 = [] := rfl
@[simp] theorem M17 : M 17 = [] := rfl
@[simp] theorem M18 : M 18 = [] := rfl
@[simp] theorem M19 : M 19 = [] := rfl
@[simp] theorem M20 : M 20 = [] := rfl
@[simp] theorem M21 : M 21 = [] := rfl
@[simp] theorem M22 : M 22 = [(true, 0), (false, 0)] := rfl
@[simp] theorem M23 : M 23 = [] := rfl
@[simp] theorem M24 : M 24 = [] := rfl
@[simp] theorem M25 : M 25 = [] := rfl
@[simp] theorem M26 : M 26 = [] := rfl
@[simp] theorem M27 : M 27 = [] := rfl
@[simp] theorem M28 : M 28 = [] := rfl
@[simp] theorem M29 : M 29 = [(true, 0), (false, 0)] := rfl
@[simp] theorem M30 : M 30 = [] := rfl
@[simp] theorem M31 : M 31 = [] := rfl
@[simp] theorem M32 : M 32 = [] := rfl
@[simp] theorem M33 : M 33 = [] := rfl
@[simp] theorem M34 : M 34 = [] := rfl
@[simp] theorem M35 : M 35 = [] := rfl
@[simp] theorem M36 : M 36 = [] := rfl
@[simp] theorem M37 : M 37 = [(true, 0), (false, 0)] := rfl
@[simp] theorem M38 : M 38 = [] := rfl
@[simp] theorem M39 : M 39 = [] := rfl
@[simp] theorem M40 : M 40 = [] := rfl
@[simp] theorem M41 : M 41 = [] := rfl
@[simp] theorem M42 : M 42 = [] := rfl
@[simp] theorem M43 : M 43 = [] := rfl
@[simp] theorem M44 : M 44 = [] := rfl
@[simp] theorem M45 : M 45 = [] := rfl
@[simp] theorem M46 : M 46 = [] := rfl
@[simp] theorem M47 : M 47 = [] := rfl
@[simp] theorem M48 : M 48 = [] := rfl
@[simp] theorem M49 : M 49 = [] := rfl
@[simp] theorem M50 : M 50 = [] := rfl
@[simp] theorem M51 : M 51 = [(true, 4), (false, 1)] := rfl
@[simp] theorem M52 : M 52 = [(true, 4), (false, 0)] := rfl
@[simp] theorem M53 : M 53 = [] := rfl
@[simp] theorem M54 : M 54 = [] := rfl
@[simp] theorem M55 : M 55 = [(true, 0), (false, 0)] := rfl
@[simp] theorem M56 : M 56 = [(true, 0), (false, 0)] := rfl
@[simp] theorem M57 : M 57 = [] := rfl
@[simp] theorem M58 : M 58 = [] := rfl
@[simp] theorem M59 : M 59 = [] := rfl
@[simp] theorem M60 : M 60 = [] := rfl
@[simp] theorem M61 : M 61 = [] := rfl
@[simp] theorem M62 : M 62 = [] := rfl
@[simp] theorem M63 : M 63 = [] := rfl
@[simp] theorem M64 : M 64 = [] := rfl
@[simp] theorem M65 : M 65 = [] := rfl
@[simp] theorem M66 : M 66 = [] := rfl
@[simp] theorem M67 : M 67 = [] := rfl
@[simp] theorem M68 : M 68 = [] := rfl
@[simp] theorem M69 : M 69 = [(true, 4), (false, 1), (false, 1)] := rfl
@[simp] theorem M70 : M 70 = [(true, 4), (false, 0), (false, 0)] := rfl
@[simp] theorem M71 : M 71 = [] := rfl
@[simp] theorem M72 : M 72 = [] := rfl
@[simp] theorem M73 : M 73 = [] := rfl
@[simp] theorem M74 : M 74 = [] := rfl
@[simp] theorem M75 : M 75 = [] := rfl
@[simp] theorem M76 : M 76 = [] := rfl
@[simp] theorem M77 : M 77 = [(true, 4), (false, 1), (false, 1)] := rfl
@[simp] theorem M78 : M 78 = [(true, 4), (false, 0), (false, 0)] := rfl
@[simp] theorem M79 : M 79 = [] := rfl
@[simp] theorem M80 : M 80 = [] := rfl
@[simp] theorem M81 : M 81 = [] := rfl
@[simp] theorem M82 : M 82 = [] := rfl
@[simp] theorem M83 : M 83 = [] := rfl
@[simp] theorem M84 : M 84 = [(false, 5), (false, 0)] := rfl
@[simp] theorem M85 : M 85 = [] := rfl
@[simp] theorem M86 : M 86 = [(true, 0), (false, 0)] := rfl
@[simp] theorem M87 : M 87 = [] := rfl
@[simp] theorem M88 : M 88 = [(true, 4), (false, 1), (false, 1), (false, 1)] := rfl
@[simp] theorem M89 : M 89 = [(true, 4), (false, 0), (false, 0), (false, 0)] := rfl
@[simp] theorem M90 : M 90 = [] := rfl
@[simp] theorem M91 : M 91 = [] := rfl
@[simp] theorem M92 : M 92 = [] := rfl
@[simp] theorem M93 : M 93 = [] := rfl
@[simp] theorem M94 : M 94 = [(false, 4), (false, 0)] := rfl
@[simp] theorem M95 : M 95 = [] := rfl
@[simp] theorem M96 : M 96 = [] := rfl
@[simp] theorem M97 : M 97 = [] := rfl
@[simp] theorem M98 : M 98 = [] := rfl
@[simp] theorem M99 : M 99 = [(true, 0), (false, 0)] := rfl
@[simp] theorem M100 : M 100 = [] := rfl
@[simp] theorem M101 : M 101 = [] := rfl
@[simp] theorem M102 : M 102 = [] := rfl
@[simp] theorem M103 : M 103 = [] := rfl
@[simp] theorem M104 : M 104 = [] := rfl
@[simp] theorem M105 : M 105 = [] := rfl
@[simp] theorem M106 : M 106 = [] := rfl
@[simp] theorem M107 : M 107 = [] := rfl
@[simp] theorem M108 : M 108 = [] := rfl
@[simp] theorem M109 : M 109 = [] := rfl
@[simp] theorem M110 : M 110 = [] := rfl
@[simp] theorem M111 : M 111 = [] := rfl
@[simp] theorem M112 : M 112 = [] := rfl
@[simp] theorem M113 : M 113 = [] := rfl
@[simp] theorem M114 : M 114 = [(false, 4), (false, 0)] := rfl
@[simp] theorem M115 : M 115 = [] := rfl
@[simp] theorem M116 : M 116 = [] := rfl
@[simp] theorem M117 : M 117 = [] := rfl
@[simp] theorem M118 : M 118 = [] := rfl
@[simp] theorem M119 : M 119 = [] := rfl
@[simp] theorem M120 : M 120 = [(false, 4), (false, 0)] := rfl
@[simp] theorem M121 : M 121 = [] := rfl
@[simp] theorem M122 : M 122 = [(true, 0), (false, 0)] := rfl
@[simp] theorem M123 : M 123 = [] := rfl
@[simp] theorem M124 : M 124 = [] := rfl
@[simp] theorem M125 : M 125 = [] := rfl
@[simp] theorem M126 : M 126 = [] := rfl
@[simp] theorem M127 : M 127 = [] := rfl
@[simp] theorem M128 : M 128 = [] := rfl
@[simp] theorem M129 : M 129 = [] := rfl
@[simp] theorem M130 : M 130 = [] := rfl
@[simp] theorem M131 : M 131 = [] := rfl
@[simp] theorem M132 : M 132 = [] := rfl
@[simp] theorem M133 : M 133 = [] := rfl
@[simp] theorem M134 : M 134 = [] := rfl
@[simp] theorem M135 : M 135 = [] := rfl
@[simp] theorem M136 : M 136 = [] := rfl
@[simp] theorem M137 : M 137 = [] := rfl
@[simp] theorem M138 : M 138 = [] := rfl
@[simp] theorem M139 : M 139 = [] := rfl
@[simp] theorem M140 : M 140 = [] := rfl
@[simp] theorem M141 : M 141 = [] := rfl
@[simp] theorem M142 : M 142 = [] := rfl
@[simp] theorem M143 : M 143 = [(false, 4), (false, 0)] := rfl
@[simp] theorem M144 : M 144 = [(false, 4)] := rfl
@[simp] theorem M145 : M 145 = [] := rfl
@[simp] theorem M146 : M 146 = [] := rfl
@[simp] theorem M147 : M 147 = [] := rfl
@[simp] theorem M148 : M 148 = [] := rfl
@[simp] theorem M149 : M 149 = [] := rfl
@[simp] theorem M150 : M 150 = [] := rfl
@[simp] theorem M151 : M 151 = [] := rfl
@[simp] theorem M152 : M 152 = [] := rfl
@[simp] theorem M153 : M 153 = [] := rfl
@[simp] theorem M154 : M 154 = [] := rfl
@[simp] theorem M155 : M 155 = [] := rfl
@[simp] theorem M156 : M 156 = [] := rfl
@[simp] theorem M157 : M 157 = [] := rfl
@[simp] theorem M158 : M 158 = [] := rfl
@[simp] theorem M159 : M 159 = [] := rfl
@[simp] theorem M160 : M 160 = [] := rfl
@[simp] theorem M161 : M 161 = [] := rfl
@[simp] theorem M162 : M 162 = [] := rfl
@[simp] theorem M175 : M 175 = [] := rfl
@[simp] theorem M176 : M 176 = [] := rfl
@[simp] theorem M177 : M 177 = [] := rfl
@[simp] theorem M178 : M 178 = [] := rfl
@[simp] theorem M179 : M 179 = [] := rfl
abbrev K := Con Try.prog
theorem ks : Sound Try.prog K := con_sound
end Go.Proofs.Ytpofjodnljeegaa
