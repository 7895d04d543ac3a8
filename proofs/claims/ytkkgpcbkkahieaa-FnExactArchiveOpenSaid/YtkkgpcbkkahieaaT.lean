/-
  The types of this translation.
-/
import Derived.Test.YtkkgpcbkkahieaaProg
import Derived.Test.YtkkgpcbkkahieaaM
set_option linter.unusedVariables false
namespace Go.Proofs.Ytkkgpcbkkahieaa
open Go.Ax
def tis : List (Nat × TI) := [(2, .int .i64), (3, .int .i64), (4, .bool), (5, .int .u8), (9, .str), (22, .slice 50 .ent), (24, .slice 3 .int), (27, .slice 53 .ent), (38, .struct [.nil, .nil, .bool false]), (39, .struct [.nil, .nil, .bool false]), (41, .struct [.nil, .nil, .bool false]), (49, .struct [.int .i64 0, .nil]), (50, .struct [.int .i64 0, .nil]), (53, .struct [.int .i64 0, .nil]), (68, .slice 71 .r2), (70, .struct [.int .i64 0, .int .i64 0]), (71, .struct [.int .i64 0, .int .i64 0]), (73, .slice 76 .r3), (75, .struct [.int .i64 0, .int .i64 0, .int .i64 0]), (76, .struct [.int .i64 0, .int .i64 0, .int .i64 0]), (82, .slice 84 .ent), (83, .struct [.int .i64 0, .nil]), (84, .struct [.int .i64 0, .nil])]
theorem tok : TOK Try.prog (lk tis) := tysB_ok (by kernel_rfl)
theorem mixed : Try.prog.follows .mixedOrders = true := by kernel_rfl
/-- The signs of the head of the translation. -/
def ioNums : List Nat := [104, 97, 114, 110, 101, 115, 115, 32, 50, 99, 48, 102, 54, 97, 54, 97, 50, 49, 48, 50, 49, 57, 51, 52, 48, 53, 98, 57, 102, 48, 100, 48, 56, 54, 54, 100, 57, 51, 52, 98,
  49, 101, 52, 51, 55, 57, 51, 49, 56, 100, 101, 56, 50, 52, 101, 98, 98, 98, 100, 99, 55, 50, 98, 49, 100, 49, 55, 100, 56, 48, 48, 54, 32, 99, 117, 116, 32, 97, 116, 32,
  108, 111, 111, 112, 46, 101, 120, 97, 109, 112, 108, 101, 47, 99, 111, 109, 112, 114, 101, 115, 115, 105, 111, 110, 108, 97, 98, 47, 108, 97, 119, 115, 46, 70, 110, 69, 120, 97, 99, 116,
  65, 114, 99, 104, 105, 118, 101, 80, 97, 99, 107, 32, 108, 111, 111, 112, 46, 101, 120, 97, 109, 112, 108, 101, 47, 99, 111, 109, 112, 114, 101, 115, 115, 105, 111, 110, 108, 97, 98, 47,
  108, 97, 119, 115, 46, 70, 110, 69, 120, 97, 99, 116, 65, 114, 99, 104, 105, 118, 101, 79, 112, 101, 110, 32, 108, 111, 111, 112, 46, 101, 120, 97, 109, 112, 108, 101, 47, 99, 111, 109,
  112, 114, 101, 115, 115, 105, 111, 110, 108, 97, 98, 47, 108, 97, 119, 115, 46, 70, 110, 69, 120, 97, 99, 116, 83, 116, 114, 101, 97, 109, 70, 101, 101, 100]
theorem io0 : Try.prog.initOrder.toByteArray = List.utf8Encode (ioNums.map Char.ofNat) := by kernel_rfl
theorem ioL : Try.prog.initOrder.toList = ioNums.map Char.ofNat := toList_of io0
theorem io1 : ∀ P : Program, P = Try.prog → P.initOrder.toList = ioNums.map Char.ofNat → P.mayEnter = true := by
  intro P hP h; unfold Program.mayEnter; rw [h]; subst hP; kernel_rfl
theorem io2 : ∀ P : Program, P = Try.prog → P.initOrder.toList = ioNums.map Char.ofNat → P.liftsFinal = false := by
  intro P hP h; unfold Program.liftsFinal Program.headLifts; rw [h]; subst hP; kernel_rfl
theorem io3 : ∀ P : Program, P = Try.prog → P.initOrder.toList = ioNums.map Char.ofNat → P.make = some .cut := by
  intro P hP h; unfold Program.make; rw [h]; subst hP; kernel_rfl
end Go.Proofs.Ytkkgpcbkkahieaa
