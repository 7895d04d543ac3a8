/-
  The types of this translation.
-/
import Derived.Test.YtgimfahkojmplaaProg
import Derived.Test.YtgimfahkojmplaaM
set_option linter.unusedVariables false
namespace Go.Proofs.Ytgimfahkojmplaa
open Go.Ax
def tis : List (Nat × TI) := [(2, .int .i64), (3, .int .i64), (4, .bool), (5, .int .u8), (9, .str), (22, .slice 3 .int), (23, .struct [.nil, .nil, .bool false]), (24, .struct [.nil, .nil, .bool false]), (26, .struct [.nil, .nil, .bool false]), (36, .slice 5 .u8), (61, .struct [.nil, .int .i64 0]), (62, .struct [.nil, .int .i64 0]), (64, .slice 66 .r2), (65, .struct [.int .i64 0, .int .i64 0]), (66, .struct [.int .i64 0, .int .i64 0]), (69, .slice 71 .r3), (70, .struct [.int .i64 0, .int .i64 0, .int .i64 0]), (71, .struct [.int .i64 0, .int .i64 0, .int .i64 0]), (77, .slice 79 .ent), (78, .struct [.int .i64 0, .nil]), (79, .struct [.int .i64 0, .nil])]
theorem tok : TOK Try.prog (lk tis) := tysB_ok (by kernel_rfl)
theorem mixed : Try.prog.follows .mixedOrders = true := by kernel_rfl
/-- The signs of the head of the translation. -/
def ioNums : List Nat := [104, 97, 114, 110, 101, 115, 115, 32, 49, 54, 99, 55, 99, 57, 49, 52, 52, 57, 54, 55, 54, 102, 53, 56, 99, 97, 100, 100, 54, 101, 52, 53, 54, 97, 57, 98, 52, 100, 52, 53,
  102, 55, 56, 99, 57, 55, 49, 52, 50, 55, 99, 48, 57, 57, 53, 48, 56, 97, 99, 53, 53, 54, 49, 100, 98, 101, 99, 53, 48, 52, 57, 52, 32, 99, 117, 116, 32, 97, 116, 32,
  108, 111, 111, 112, 46, 101, 120, 97, 109, 112, 108, 101, 47, 99, 111, 109, 112, 114, 101, 115, 115, 105, 111, 110, 108, 97, 98, 47, 108, 97, 119, 115, 46, 70, 110, 69, 120, 97, 99, 116,
  83, 116, 114, 101, 97, 109, 70, 101, 101, 100, 32, 108, 111, 111, 112, 46, 101, 120, 97, 109, 112, 108, 101, 47, 99, 111, 109, 112, 114, 101, 115, 115, 105, 111, 110, 108, 97, 98, 47, 108,
  97, 119, 115, 46, 70, 110, 83, 116, 114, 101, 97, 109, 80, 97, 114, 116, 32, 108, 111, 111, 112, 46, 101, 120, 97, 109, 112, 108, 101, 47, 99, 111, 109, 112, 114, 101, 115, 115, 105, 111,
  110, 108, 97, 98, 47, 108, 97, 119, 115, 46, 70, 110, 69, 110, 100, 32, 108, 111, 111, 112, 46, 101, 120, 97, 109, 112, 108, 101, 47, 99, 111, 109, 112, 114, 101, 115, 115, 105, 111, 110,
  108, 97, 98, 47, 108, 97, 119, 115, 46, 70, 110, 83, 116, 114, 101, 97, 109, 83, 116, 97, 114, 116, 32, 108, 111, 111, 112, 46, 101, 120, 97, 109, 112, 108, 101, 47, 99, 111, 109, 112,
  114, 101, 115, 115, 105, 111, 110, 108, 97, 98, 47, 108, 97, 119, 115, 46, 70, 110, 70, 101, 101, 100, 32, 108, 111, 111, 112, 46, 101, 120, 97, 109, 112, 108, 101, 47, 99, 111, 109, 112,
  114, 101, 115, 115, 105, 111, 110, 108, 97, 98, 47, 108, 97, 119, 115, 46, 70, 110, 70, 101, 101, 100, 66, 97, 100, 32, 108, 111, 111, 112, 46, 101, 120, 97, 109, 112, 108, 101, 47, 99,
  111, 109, 112, 114, 101, 115, 115, 105, 111, 110, 108, 97, 98, 47, 108, 97, 119, 115, 46, 70, 110, 70, 101, 101, 100, 78, 111, 110, 101, 32, 108, 111, 111, 112, 46, 101, 120, 97, 109, 112,
  108, 101, 47, 99, 111, 109, 112, 114, 101, 115, 115, 105, 111, 110, 108, 97, 98, 47, 108, 97, 119, 115, 46, 70, 110, 70, 101, 101, 100, 86, 97, 108, 105, 100]
theorem io0 : Try.prog.initOrder.toByteArray = List.utf8Encode (ioNums.map Char.ofNat) := by kernel_rfl
theorem ioL : Try.prog.initOrder.toList = ioNums.map Char.ofNat := toList_of io0
theorem io1 : ∀ P : Program, P = Try.prog → P.initOrder.toList = ioNums.map Char.ofNat → P.mayEnter = true := by
  intro P hP h; unfold Program.mayEnter; rw [h]; subst hP; kernel_rfl
theorem io2 : ∀ P : Program, P = Try.prog → P.initOrder.toList = ioNums.map Char.ofNat → P.liftsFinal = false := by
  intro P hP h; unfold Program.liftsFinal Program.headLifts; rw [h]; subst hP; kernel_rfl
theorem io3 : ∀ P : Program, P = Try.prog → P.initOrder.toList = ioNums.map Char.ofNat → P.make = some .cut := by
  intro P hP h; unfold Program.make; rw [h]; subst hP; kernel_rfl
end Go.Proofs.Ytgimfahkojmplaa
