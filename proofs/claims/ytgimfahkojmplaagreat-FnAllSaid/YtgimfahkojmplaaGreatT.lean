/-
  The types of this translation.
-/
import Derived.Test.YtgimfahkojmplaaGreatProg
import Derived.Test.YtgimfahkojmplaaGreatM
set_option linter.unusedVariables false
namespace Go.Proofs.YtgimfahkojmplaaGreat
open Go.Ax
def tis : List (Nat × TI) := [(2, .int .i64), (3, .int .i64), (4, .bool), (5, .int .u8), (9, .str), (22, .slice 5 .u8), (23, .slice 3 .int), (34, .struct [.nil, .nil, .bool false]), (35, .struct [.nil, .nil, .bool false]), (49, .struct [.nil, .int .i64 0]), (50, .struct [.nil, .int .i64 0]), (52, .slice 54 .r2), (53, .struct [.int .i64 0, .int .i64 0]), (54, .struct [.int .i64 0, .int .i64 0]), (57, .slice 59 .r3), (58, .struct [.int .i64 0, .int .i64 0, .int .i64 0]), (59, .struct [.int .i64 0, .int .i64 0, .int .i64 0]), (68, .slice 70 .ent), (69, .struct [.int .i64 0, .nil]), (70, .struct [.int .i64 0, .nil])]
theorem tok : TOK Tryz.prog (lk tis) := tysB_ok (by kernel_rfl)
theorem mixed : Tryz.prog.follows .mixedOrders = true := by kernel_rfl
/-- The signs of the head of the translation. -/
def ioNums : List Nat := [104, 97, 114, 110, 101, 115, 115, 32, 100, 48, 53, 49, 102, 56, 55, 100, 50, 48, 99, 97, 100, 50, 52, 99, 49, 54, 52, 51, 98, 52, 51, 101, 102, 100, 98, 52, 50, 102, 50, 50,
  55, 57, 98, 49, 55, 97, 55, 51, 97, 56, 49, 100, 99, 99, 53, 57, 54, 50, 98, 100, 49, 99, 48, 56, 51, 98, 98, 57, 50, 50, 51, 101, 32, 99, 117, 116, 32, 97, 116, 32,
  108, 111, 111, 112, 46, 101, 120, 97, 109, 112, 108, 101, 47, 99, 111, 109, 112, 114, 101, 115, 115, 105, 111, 110, 108, 97, 98, 47, 108, 97, 119, 115, 46, 70, 110, 65, 108, 108, 79, 112,
  101, 110, 32, 108, 111, 111, 112, 46, 101, 120, 97, 109, 112, 108, 101, 47, 99, 111, 109, 112, 114, 101, 115, 115, 105, 111, 110, 108, 97, 98, 47, 108, 97, 119, 115, 46, 70, 110, 65, 108,
  108, 32, 108, 111, 111, 112, 46, 101, 120, 97, 109, 112, 108, 101, 47, 99, 111, 109, 112, 114, 101, 115, 115, 105, 111, 110, 108, 97, 98, 47, 108, 97, 119, 115, 46, 70, 110, 70, 101, 101,
  100, 66, 108, 111, 99, 107]
theorem io0 : Tryz.prog.initOrder.toByteArray = List.utf8Encode (ioNums.map Char.ofNat) := by kernel_rfl
theorem ioL : Tryz.prog.initOrder.toList = ioNums.map Char.ofNat := toList_of io0
theorem io1 : ∀ P : Program, P = Tryz.prog → P.initOrder.toList = ioNums.map Char.ofNat → P.mayEnter = true := by
  intro P hP h; unfold Program.mayEnter; rw [h]; subst hP; kernel_rfl
theorem io2 : ∀ P : Program, P = Tryz.prog → P.initOrder.toList = ioNums.map Char.ofNat → P.liftsFinal = false := by
  intro P hP h; unfold Program.liftsFinal Program.headLifts; rw [h]; subst hP; kernel_rfl
theorem io3 : ∀ P : Program, P = Tryz.prog → P.initOrder.toList = ioNums.map Char.ofNat → P.make = some .cut := by
  intro P hP h; unfold Program.make; rw [h]; subst hP; kernel_rfl
end Go.Proofs.YtgimfahkojmplaaGreat
