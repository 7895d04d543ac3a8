/-
  The types of this translation.
-/
import Derived.Test.YtfnmhnbadepooaaGreatDoorProg
import Derived.Test.YtfnmhnbadepooaaGreatDoorM
set_option linter.unusedVariables false
namespace Go.Proofs.YtfnmhnbadepooaaGreatDoor
open Go.Ax
def tis : List (Nat × TI) := [(2, .int .i64), (3, .int .i64), (4, .bool), (5, .int .u8), (9, .str), (22, .slice 5 .u8), (31, .slice 9 .str), (36, .struct [.nil, .int .i64 0]), (37, .struct [.nil, .int .i64 0]), (38, .slice 3 .int), (46, .slice 49 .r2), (48, .struct [.int .i64 0, .int .i64 0]), (49, .struct [.int .i64 0, .int .i64 0]), (53, .slice 64 .r3), (63, .struct [.int .i64 0, .int .i64 0, .int .i64 0]), (64, .struct [.int .i64 0, .int .i64 0, .int .i64 0]), (92, .slice 94 .ent), (93, .struct [.int .i64 0, .nil]), (94, .struct [.int .i64 0, .nil]), (104, .struct [.int .u8 0, .int .u8 0])]
theorem tok : TOK Tryz.prog (lk tis) := tysB_ok (by kernel_rfl)
theorem mixed : Tryz.prog.follows .mixedOrders = true := by kernel_rfl
/-- The signs of the head of the translation. -/
def ioNums : List Nat := [104, 97, 114, 110, 101, 115, 115, 32, 52, 54, 98, 57, 57, 99, 54, 98, 57, 101, 53, 51, 99, 48, 56, 54, 56, 55, 97, 102, 99, 101, 49, 100, 54, 99, 52, 55, 52, 102, 98, 101,
  51, 57, 100, 56, 51, 101, 99, 57, 99, 98, 97, 102, 55, 52, 97, 98, 98, 53, 99, 52, 99, 53, 99, 97, 53, 56, 53, 56, 50, 50, 53, 50, 32, 99, 117, 116, 32, 97, 116, 32,
  108, 111, 111, 112, 46, 101, 120, 97, 109, 112, 108, 101, 47, 99, 111, 109, 112, 114, 101, 115, 115, 105, 111, 110, 108, 97, 98, 47, 108, 97, 119, 115, 46, 70, 110, 83, 99, 114, 105, 112,
  116, 84, 117, 114, 110, 32, 108, 111, 111, 112, 46, 101, 120, 97, 109, 112, 108, 101, 47, 99, 111, 109, 112, 114, 101, 115, 115, 105, 111, 110, 108, 97, 98, 47, 108, 97, 119, 115, 46, 70,
  110, 83, 99, 114, 105, 112, 116, 67, 117, 116, 32, 108, 111, 111, 112, 46, 101, 120, 97, 109, 112, 108, 101, 47, 99, 111, 109, 112, 114, 101, 115, 115, 105, 111, 110, 108, 97, 98, 47, 108,
  97, 119, 115, 46, 70, 110, 83, 99, 114, 105, 112, 116, 84, 119, 105, 99, 101, 32, 108, 111, 111, 112, 46, 101, 120, 97, 109, 112, 108, 101, 47, 99, 111, 109, 112, 114, 101, 115, 115, 105,
  111, 110, 108, 97, 98, 47, 108, 97, 119, 115, 46, 70, 110, 69, 120, 97, 99, 116, 69, 120, 101, 99, 117, 116, 101, 32, 108, 111, 111, 112, 46, 101, 120, 97, 109, 112, 108, 101, 47, 99,
  111, 109, 112, 114, 101, 115, 115, 105, 111, 110, 108, 97, 98, 47, 108, 97, 119, 115, 46, 70, 110, 83, 99, 114, 105, 112, 116, 32, 108, 111, 111, 112, 46, 101, 120, 97, 109, 112, 108, 101,
  47, 99, 111, 109, 112, 114, 101, 115, 115, 105, 111, 110, 108, 97, 98, 47, 108, 97, 119, 115, 46, 70, 110, 83, 99, 114, 105, 112, 116, 66, 97, 100, 32, 108, 111, 111, 112, 46, 101, 120,
  97, 109, 112, 108, 101, 47, 99, 111, 109, 112, 114, 101, 115, 115, 105, 111, 110, 108, 97, 98, 47, 108, 97, 119, 115, 46, 70, 110, 83, 99, 114, 105, 112, 116, 80, 97, 99, 107, 32, 108,
  111, 111, 112, 46, 101, 120, 97, 109, 112, 108, 101, 47, 99, 111, 109, 112, 114, 101, 115, 115, 105, 111, 110, 108, 97, 98, 47, 108, 97, 119, 115, 46, 70, 110, 83, 99, 114, 105, 112, 116,
  82, 117, 110, 115, 32, 108, 111, 111, 112, 46, 101, 120, 97, 109, 112, 108, 101, 47, 99, 111, 109, 112, 114, 101, 115, 115, 105, 111, 110, 108, 97, 98, 47, 108, 97, 119, 115, 46, 70, 110,
  83, 99, 114, 105, 112, 116, 84, 111, 107, 101, 110, 115]
theorem io0 : Tryz.prog.initOrder.toByteArray = List.utf8Encode (ioNums.map Char.ofNat) := by kernel_rfl
theorem ioL : Tryz.prog.initOrder.toList = ioNums.map Char.ofNat := toList_of io0
theorem io1 : ∀ P : Program, P = Tryz.prog → P.initOrder.toList = ioNums.map Char.ofNat → P.mayEnter = true := by
  intro P hP h; unfold Program.mayEnter; rw [h]; subst hP; kernel_rfl
theorem io2 : ∀ P : Program, P = Tryz.prog → P.initOrder.toList = ioNums.map Char.ofNat → P.liftsFinal = false := by
  intro P hP h; unfold Program.liftsFinal Program.headLifts; rw [h]; subst hP; kernel_rfl
theorem io3 : ∀ P : Program, P = Tryz.prog → P.initOrder.toList = ioNums.map Char.ofNat → P.make = some .cut := by
  intro P hP h; unfold Program.make; rw [h]; subst hP; kernel_rfl
end Go.Proofs.YtfnmhnbadepooaaGreatDoor
