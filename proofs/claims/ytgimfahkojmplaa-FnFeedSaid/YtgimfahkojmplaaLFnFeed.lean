/-
  FnFeed: for every input the law returns true, and each argument reads afterwards as it read before. No conditions.
-/
import Derived.Test.YtgimfahkojmplaaRows
import Derived.Test.YtgimfahkojmplaaT
import Derived.Test.YtgimfahkojmplaaSa
import Derived.Test.YtgimfahkojmplaaSb
import Derived.Test.YtgimfahkojmplaaSf
import Derived.Test.YtgimfahkojmplaaSg
import Derived.Test.YtgimfahkojmplaaSj
import Derived.Test.YtgimfahkojmplaaSk
import Derived.Test.YtgimfahkojmplaaSl
import Derived.Test.YtgimfahkojmplaaSm
import Derived.Test.YtgimfahkojmplaaSn
import Derived.Test.YtgimfahkojmplaaSo
import Derived.Test.YtgimfahkojmplaaSp
import Derived.Test.YtgimfahkojmplaaSr
import Derived.Test.YtgimfahkojmplaaSs
import Derived.Test.YtgimfahkojmplaaSt
set_option linter.unusedVariables false
set_option linter.unusedSimpArgs false
open Go Go.Ax Go.Mx Go.ChangeShapes Go.WideShapes Go.RowKit Go.ChangeAt
namespace Go.Proofs.Ytgimfahkojmplaa
def V_l_FnFeed : Prop :=
  ∀ (l0 l1 : List UInt8), (l0.length : Int) ≤ (9223372036854775807 : Int) ∧ (l1.length : Int) ≤ (9223372036854775807 : Int) → (1048576 < (l0.length : Int) → true = true) ∧ (¬1048576 < (l0.length : Int) → (1048576 < (l1.length : Int) → true =
 true) ∧ (¬1048576 < (l1.length : Int) → (l0.length : Int) ≤ 1099511627776 ∧ ∀ (l2 l3 : List Int), (∀ (l4 : List Int), (l2.length : Int) ≤ 6000 ∧ (l3.length : Int) ≤ 200 ∧ (l4.length : Int) ≤ 6000 → ((l2.length : Int) ≤ 10000000000 ∧
 (l3.length : Int) ≤ 10000000000 ∧ (l4.length : Int) ≤ 10000000000) ∧ ∀ (l5 l6 : List Int), ((Fed l2 l3 true l4 true l5 l6 true → ((l2.length : Int) ≤ 10000000000 ∧ (l3.length : Int) ≤ 10000000000 ∧ (l4.length : Int) ≤ 10000000000) ∧ ∀ (l7 l8
 : List Int), ((Fed l2 l3 true l4 true l7 l8 true → ((l5.length : Int) ≤ 1099511627776 ∧ (l6.length : Int) ≤ 1099511627776 ∧ (l7.length : Int) ≤ 1099511627776 ∧ (l8.length : Int) ≤ 1099511627776) ∧ (true = decide ((l5, l6, true) = (l7, l8,
 true)) → (-9223372036854775808 ≤ (l4.length : Int) + 1 ∧ (l4.length : Int) + (1 : Int) ≤ (9223372036854775807 : Int)) ∧ 0 ≤ (l1.length : Int) ∧ 0 < (l4.length : Int) + 1 ∧ 0 ≤ (l1.length : Int) % ((l4.length : Int) + 1) ∧ (l1.length : Int) %
 ((l4.length : Int) + 1) ≤ (l4.length : Int) ∧ (∃ (xs : List Int), ∃ (xs_1 : List Int), ∃ (b : Bool), ∃ (b_1 : Bool), Fed l2 l3 true (List.take (Int.toNat ((l1.length : Int) % ((l4.length : Int) + 1))) l4) b_1 xs xs_1 b) ∧ ((l2.length : Int)
 ≤ 10000000000 ∧ (l3.length : Int) ≤ 10000000000 ∧ (↑(List.length (List.take (Int.toNat ((l1.length : Int) % ((l4.length : Int) + 1))) l4)) : Int) ≤ 10000000000) ∧ ∀ (l9 l10 : List Int), ((Fed l2 l3 true (List.take (Int.toNat ((l1.length :
 Int) % ((l4.length : Int) + 1))) l4) true l9 l10 true → 0 ≤ (l1.length : Int) % ((l4.length : Int) + 1) ∧ (l1.length : Int) % ((l4.length : Int) + 1) ≤ (l4.length : Int) ∧ (∃ (xs : List Int), ∃ (xs_1 : List Int), ∃ (b : Bool), ∃ (b_1 :
 Bool), Fed l9 l10 true (List.drop (Int.toNat ((l1.length : Int) % ((l4.length : Int) + 1))) l4) b_1 xs xs_1 b) ∧ ((l9.length : Int) ≤ 10000000000 ∧ (l10.length : Int) ≤ 10000000000 ∧ (↑(List.length (List.drop (Int.toNat ((l1.length : Int) %
 ((l4.length : Int) + 1))) l4)) : Int) ≤ 10000000000) ∧ ∀ (l11 l12 : List Int), ((Fed l9 l10 true (List.drop (Int.toNat ((l1.length : Int) % ((l4.length : Int) + 1))) l4) true l11 l12 true → ((l11.length : Int) ≤ 1099511627776 ∧ (l12.length :
 Int) ≤ 1099511627776 ∧ (l5.length : Int) ≤ 1099511627776 ∧ (l6.length : Int) ≤ 1099511627776) ∧ (true = decide ((l11, l12, true) = (l5, l6, true)) → true = true) ∧ (false = decide ((l11, l12, true) = (l5, l6, true)) → false = true)) ∧ (Fed
 l9 l10 true (List.drop (Int.toNat ((l1.length : Int) % ((l4.length : Int) + 1))) l4) false l11 l12 true → false = true)) ∧ (Fed l9 l10 true (List.drop (Int.toNat ((l1.length : Int) % ((l4.length : Int) + 1))) l4) true l11 l12 false →
 ((l11.length : Int) ≤ 1099511627776 ∧ (l12.length : Int) ≤ 1099511627776 ∧ (l5.length : Int) ≤ 1099511627776 ∧ (l6.length : Int) ≤ 1099511627776) ∧ (true = decide ((l11, l12, false) = (l5, l6, true)) → true = true) ∧ (false = decide ((l11,
 l12, false) = (l5, l6, true)) → false = true)) ∧ (Fed l9 l10 true (List.drop (Int.toNat ((l1.length : Int) % ((l4.length : Int) + 1))) l4) false l11 l12 false → false = true)) ∧ (Fed l2 l3 true (List.take (Int.toNat ((l1.length : Int) %
 ((l4.length : Int) + 1))) l4) false l9 l10 true → 0 ≤ (l1.length : Int) % ((l4.length : Int) + 1) ∧ (l1.length : Int) % ((l4.length : Int) + 1) ≤ (l4.length : Int) ∧ (∃ (xs : List Int), ∃ (xs_1 : List Int), ∃ (b : Bool), ∃ (b_1 : Bool), Fed
 l9 l10 true (List.drop (Int.toNat ((l1.length : Int) % ((l4.length : Int) + 1))) l4) b_1 xs xs_1 b) ∧ ((l9.length : Int) ≤ 10000000000 ∧ (l10.length : Int) ≤ 10000000000 ∧ (↑(List.length (List.drop (Int.toNat ((l1.length : Int) % ((l4.length
 : Int) + 1))) l4)) : Int) ≤ 10000000000) ∧ ∀ (l13 l14 : List Int), ((Fed l9 l10 true (List.drop (Int.toNat ((l1.length : Int) % ((l4.length : Int) + 1))) l4) true l13 l14 true → false = true) ∧ (Fed l9 l10 true (List.drop (Int.toNat
 ((l1.length : Int) % ((l4.length : Int) + 1))) l4) false l13 l14 true → false = true)) ∧ (Fed l9 l10 true (List.drop (Int.toNat ((l1.length : Int) % ((l4.length : Int) + 1))) l4) true l13 l14 false → false = true) ∧ (Fed l9 l10 true
 (List.drop (Int.toNat ((l1.length : Int) % ((l4.length : Int) + 1))) l4) false l13 l14 false → false = true))) ∧ (Fed l2 l3 true (List.take (Int.toNat ((l1.length : Int) % ((l4.length : Int) + 1))) l4) true l9 l10 false → 0 ≤ (l1.length :
 Int) % ((l4.length : Int) + 1) ∧ (l1.length : Int) % ((l4.length : Int) + 1) ≤ (l4.length : Int) ∧ (∃ (xs : List Int), ∃ (xs_1 : List Int), ∃ (b : Bool), ∃ (b_1 : Bool), Fed l9 l10 false (List.drop (Int.toNat ((l1.length : Int) % ((l4.length
 : Int) + 1))) l4) b_1 xs xs_1 b) ∧ ((l9.length : Int) ≤ 10000000000 ∧ (l10.length : Int) ≤ 10000000000 ∧ (↑(List.length (List.drop (Int.toNat ((l1.length : Int) % ((l4.length : Int) + 1))) l4)) : Int) ≤ 10000000000) ∧ ∀ (l15 l16 : List Int),
 ((Fed l9 l10 false (List.drop (Int.toNat ((l1.length : Int) % ((l4.length : Int) + 1))) l4) true l15 l16 true → ((l15.length : Int) ≤ 1099511627776 ∧ (l16.length : Int) ≤ 1099511627776 ∧ (l5.length : Int) ≤ 1099511627776 ∧ (l6.length : Int)
 ≤ 1099511627776) ∧ (true = decide ((l15, l16, true) = (l5, l6, true)) → true = true) ∧ (false = decide ((l15, l16, true) = (l5, l6, true)) → false = true)) ∧ (Fed l9 l10 false (List.drop (Int.toNat ((l1.length : Int) % ((l4.length : Int) +
 1))) l4) false l15 l16 true → false = true)) ∧ (Fed l9 l10 false (List.drop (Int.toNat ((l1.length : Int) % ((l4.length : Int) + 1))) l4) true l15 l16 false → ((l15.length : Int) ≤ 1099511627776 ∧ (l16.length : Int) ≤ 1099511627776 ∧
 (l5.length : Int) ≤ 1099511627776 ∧ (l6.length : Int) ≤ 1099511627776) ∧ (true = decide ((l15, l16, false) = (l5, l6, true)) → true = true) ∧ (false = decide ((l15, l16, false) = (l5, l6, true)) → false = true)) ∧ (Fed l9 l10 false
 (List.drop (Int.toNat ((l1.length : Int) % ((l4.length : Int) + 1))) l4) false l15 l16 false → false = true)) ∧ (Fed l2 l3 true (List.take (Int.toNat ((l1.length : Int) % ((l4.length : Int) + 1))) l4) false l9 l10 false → 0 ≤ (l1.length :
 Int) % ((l4.length : Int) + 1) ∧ (l1.length : Int) % ((l4.length : Int) + 1) ≤ (l4.length : Int) ∧ (∃ (xs : List Int), ∃ (xs_1 : List Int), ∃ (b : Bool), ∃ (b_1 : Bool), Fed l9 l10 false (List.drop (Int.toNat ((l1.length : Int) % ((l4.length
 : Int) + 1))) l4) b_1 xs xs_1 b) ∧ ((l9.length : Int) ≤ 10000000000 ∧ (l10.length : Int) ≤ 10000000000 ∧ (↑(List.length (List.drop (Int.toNat ((l1.length : Int) % ((l4.length : Int) + 1))) l4)) : Int) ≤ 10000000000) ∧ ∀ (l17 l18 : List Int),
 ((Fed l9 l10 false (List.drop (Int.toNat ((l1.length : Int) % ((l4.length : Int) + 1))) l4) true l17 l18 true → false = true) ∧ (Fed l9 l10 false (List.drop (Int.toNat ((l1.length : Int) % ((l4.length : Int) + 1))) l4) false l17 l18 true →
 false = true)) ∧ (Fed l9 l10 false (List.drop (Int.toNat ((l1.length : Int) % ((l4.length : Int) + 1))) l4) true l17 l18 false → false = true) ∧ (Fed l9 l10 false (List.drop (Int.toNat ((l1.length : Int) % ((l4.length : Int) + 1))) l4) false
 l17 l18 false → false = true))) ∧ (false = decide ((l5, l6, true) = (l7, l8, true)) → ((l5.length : Int) ≤ 1099511627776 ∧ (l6.length : Int) ≤ 1099511627776 ∧ (l7.length : Int) ≤ 1099511627776 ∧ (l8.length : Int) ≤ 1099511627776) ∧ (true =
 decide ((l5, l6, true) = (l7, l8, true)) → true = true) ∧ (false = decide ((l5, l6, true) = (l7, l8, true)) → false = true))) ∧ (Fed l2 l3 true l4 false l7 l8 true → false = true)) ∧ (Fed l2 l3 true l4 true l7 l8 false → ((l5.length : Int) ≤
 1099511627776 ∧ (l6.length : Int) ≤ 1099511627776 ∧ (l7.length : Int) ≤ 1099511627776 ∧ (l8.length : Int) ≤ 1099511627776) ∧ (true = decide ((l5, l6, true) = (l7, l8, false)) → (-9223372036854775808 ≤ (l4.length : Int) + 1 ∧ (l4.length :
 Int) + (1 : Int) ≤ (9223372036854775807 : Int)) ∧ 0 ≤ (l1.length : Int) ∧ 0 < (l4.length : Int) + 1 ∧ 0 ≤ (l1.length : Int) % ((l4.length : Int) + 1) ∧ (l1.length : Int) % ((l4.length : Int) + 1) ≤ (l4.length : Int) ∧ (∃ (xs : List Int), ∃
 (xs_1 : List Int), ∃ (b : Bool), ∃ (b_1 : Bool), Fed l2 l3 true (List.take (Int.toNat ((l1.length : Int) % ((l4.length : Int) + 1))) l4) b_1 xs xs_1 b) ∧ ((l2.length : Int) ≤ 10000000000 ∧ (l3.length : Int) ≤ 10000000000 ∧ (↑(List.length
 (List.take (Int.toNat ((l1.length : Int) % ((l4.length : Int) + 1))) l4)) : Int) ≤ 10000000000) ∧ ∀ (l19 l20 : List Int), ((Fed l2 l3 true (List.take (Int.toNat ((l1.length : Int) % ((l4.length : Int) + 1))) l4) true l19 l20 true → 0 ≤
 (l1.length : Int) % ((l4.length : Int) + 1) ∧ (l1.length : Int) % ((l4.length : Int) + 1) ≤ (l4.length : Int) ∧ (∃ (xs : List Int), ∃ (xs_1 : List Int), ∃ (b : Bool), ∃ (b_1 : Bool), Fed l19 l20 true (List.drop (Int.toNat ((l1.length : Int)
 % ((l4.length : Int) + 1))) l4) b_1 xs xs_1 b) ∧ ((l19.length : Int) ≤ 10000000000 ∧ (l20.length : Int) ≤ 10000000000 ∧ (↑(List.length (List.drop (Int.toNat ((l1.length : Int) % ((l4.length : Int) + 1))) l4)) : Int) ≤ 10000000000) ∧ ∀ (l21
 l22 : List Int), ((Fed l19 l20 true (List.drop (Int.toNat ((l1.length : Int) % ((l4.length : Int) + 1))) l4) true l21 l22 true → ((l21.length : Int) ≤ 1099511627776 ∧ (l22.length : Int) ≤ 1099511627776 ∧ (l5.length : Int) ≤ 1099511627776 ∧
 (l6.length : Int) ≤ 1099511627776) ∧ (true = decide ((l21, l22, true) = (l5, l6, true)) → true = true) ∧ (false = decide ((l21, l22, true) = (l5, l6, true)) → false = true)) ∧ (Fed l19 l20 true (List.drop (Int.toNat ((l1.length : Int) %
 ((l4.length : Int) + 1))) l4) false l21 l22 true → false = true)) ∧ (Fed l19 l20 true (List.drop (Int.toNat ((l1.length : Int) % ((l4.length : Int) + 1))) l4) true l21 l22 false → ((l21.length : Int) ≤ 1099511627776 ∧ (l22.length : Int) ≤
 1099511627776 ∧ (l5.length : Int) ≤ 1099511627776 ∧ (l6.length : Int) ≤ 1099511627776) ∧ (true = decide ((l21, l22, false) = (l5, l6, true)) → true = true) ∧ (false = decide ((l21, l22, false) = (l5, l6, true)) → false = true)) ∧ (Fed l19
 l20 true (List.drop (Int.toNat ((l1.length : Int) % ((l4.length : Int) + 1))) l4) false l21 l22 false → false = true)) ∧ (Fed l2 l3 true (List.take (Int.toNat ((l1.length : Int) % ((l4.length : Int) + 1))) l4) false l19 l20 true → 0 ≤
 (l1.length : Int) % ((l4.length : Int) + 1) ∧ (l1.length : Int) % ((l4.length : Int) + 1) ≤ (l4.length : Int) ∧ (∃ (xs : List Int), ∃ (xs_1 : List Int), ∃ (b : Bool), ∃ (b_1 : Bool), Fed l19 l20 true (List.drop (Int.toNat ((l1.length : Int)
 % ((l4.length : Int) + 1))) l4) b_1 xs xs_1 b) ∧ ((l19.length : Int) ≤ 10000000000 ∧ (l20.length : Int) ≤ 10000000000 ∧ (↑(List.length (List.drop (Int.toNat ((l1.length : Int) % ((l4.length : Int) + 1))) l4)) : Int) ≤ 10000000000) ∧ ∀ (l23
 l24 : List Int), ((Fed l19 l20 true (List.drop (Int.toNat ((l1.length : Int) % ((l4.length : Int) + 1))) l4) true l23 l24 true → false = true) ∧ (Fed l19 l20 true (List.drop (Int.toNat ((l1.length : Int) % ((l4.length : Int) + 1))) l4) false
 l23 l24 true → false = true)) ∧ (Fed l19 l20 true (List.drop (Int.toNat ((l1.length : Int) % ((l4.length : Int) + 1))) l4) true l23 l24 false → false = true) ∧ (Fed l19 l20 true (List.drop (Int.toNat ((l1.length : Int) % ((l4.length : Int) +
 1))) l4) false l23 l24 false → false = true))) ∧ (Fed l2 l3 true (List.take (Int.toNat ((l1.length : Int) % ((l4.length : Int) + 1))) l4) true l19 l20 false → 0 ≤ (l1.length : Int) % ((l4.length : Int) + 1) ∧ (l1.length : Int) % ((l4.length
 : Int) + 1) ≤ (l4.length : Int) ∧ (∃ (xs : List Int), ∃ (xs_1 : List Int), ∃ (b : Bool), ∃ (b_1 : Bool), Fed l19 l20 false (List.drop (Int.toNat ((l1.length : Int) % ((l4.length : Int) + 1))) l4) b_1 xs xs_1 b) ∧ ((l19.length : Int) ≤
 10000000000 ∧ (l20.length : Int) ≤ 10000000000 ∧ (↑(List.length (List.drop (Int.toNat ((l1.length : Int) % ((l4.length : Int) + 1))) l4)) : Int) ≤ 10000000000) ∧ ∀ (l25 l26 : List Int), ((Fed l19 l20 false (List.drop (Int.toNat ((l1.length :
 Int) % ((l4.length : Int) + 1))) l4) true l25 l26 true → ((l25.length : Int) ≤ 1099511627776 ∧ (l26.length : Int) ≤ 1099511627776 ∧ (l5.length : Int) ≤ 1099511627776 ∧ (l6.length : Int) ≤ 1099511627776) ∧ (true = decide ((l25, l26, true) =
 (l5, l6, true)) → true = true) ∧ (false = decide ((l25, l26, true) = (l5, l6, true)) → false = true)) ∧ (Fed l19 l20 false (List.drop (Int.toNat ((l1.length : Int) % ((l4.length : Int) + 1))) l4) false l25 l26 true → false = true)) ∧ (Fed
 l19 l20 false (List.drop (Int.toNat ((l1.length : Int) % ((l4.length : Int) + 1))) l4) true l25 l26 false → ((l25.length : Int) ≤ 1099511627776 ∧ (l26.length : Int) ≤ 1099511627776 ∧ (l5.length : Int) ≤ 1099511627776 ∧ (l6.length : Int) ≤
 1099511627776) ∧ (true = decide ((l25, l26, false) = (l5, l6, true)) → true = true) ∧ (false = decide ((l25, l26, false) = (l5, l6, true)) → false = true)) ∧ (Fed l19 l20 false (List.drop (Int.toNat ((l1.length : Int) % ((l4.length : Int) +
 1))) l4) false l25 l26 false → false = true)) ∧ (Fed l2 l3 true (List.take (Int.toNat ((l1.length : Int) % ((l4.length : Int) + 1))) l4) false l19 l20 false → 0 ≤ (l1.length : Int) % ((l4.length : Int) + 1) ∧ (l1.length : Int) % ((l4.length
 : Int) + 1) ≤ (l4.length : Int) ∧ (∃ (xs : List Int), ∃ (xs_1 : List Int), ∃ (b : Bool), ∃ (b_1 : Bool), Fed l19 l20 false (List.drop (Int.toNat ((l1.length : Int) % ((l4.length : Int) + 1))) l4) b_1 xs xs_1 b) ∧ ((l19.length : Int) ≤
 10000000000 ∧ (l20.length : Int) ≤ 10000000000 ∧ (↑(List.length (List.drop (Int.toNat ((l1.length : Int) % ((l4.length : Int) + 1))) l4)) : Int) ≤ 10000000000) ∧ ∀ (l27 l28 : List Int), ((Fed l19 l20 false (List.drop (Int.toNat ((l1.length :
 Int) % ((l4.length : Int) + 1))) l4) true l27 l28 true → false = true) ∧ (Fed l19 l20 false (List.drop (Int.toNat ((l1.length : Int) % ((l4.length : Int) + 1))) l4) false l27 l28 true → false = true)) ∧ (Fed l19 l20 false (List.drop
 (Int.toNat ((l1.length : Int) % ((l4.length : Int) + 1))) l4) true l27 l28 false → false = true) ∧ (Fed l19 l20 false (List.drop (Int.toNat ((l1.length : Int) % ((l4.length : Int) + 1))) l4) false l27 l28 false → false = true))) ∧ (false =
 decide ((l5, l6, true) = (l7, l8, false)) → ((l5.length : Int) ≤ 1099511627776 ∧ (l6.length : Int) ≤ 1099511627776 ∧ (l7.length : Int) ≤ 1099511627776 ∧ (l8.length : Int) ≤ 1099511627776) ∧ (true = decide ((l5, l6, true) = (l7, l8, false)) →
 true = true) ∧ (false = decide ((l5, l6, true) = (l7, l8, false)) → false = true))) ∧ (Fed l2 l3 true l4 false l7 l8 false → false = true)) ∧ (Fed l2 l3 true l4 false l5 l6 true → ((l2.length : Int) ≤ 10000000000 ∧ (l3.length : Int) ≤
 10000000000 ∧ (l4.length : Int) ≤ 10000000000) ∧ ∀ (l29 l30 : List Int), ((Fed l2 l3 true l4 true l29 l30 true → false = true) ∧ (Fed l2 l3 true l4 false l29 l30 true → ((l5.length : Int) ≤ 1099511627776 ∧ (l6.length : Int) ≤ 1099511627776 ∧
 (l29.length : Int) ≤ 1099511627776 ∧ (l30.length : Int) ≤ 1099511627776) ∧ (true = decide ((l5, l6, true) = (l29, l30, true)) → ((l5.length : Int) ≤ 1099511627776 ∧ (l6.length : Int) ≤ 1099511627776 ∧ (l29.length : Int) ≤ 1099511627776 ∧
 (l30.length : Int) ≤ 1099511627776) ∧ (true = decide ((l5, l6, true) = (l29, l30, true)) → true = true) ∧ (false = decide ((l5, l6, true) = (l29, l30, true)) → false = true)) ∧ (false = decide ((l5, l6, true) = (l29, l30, true)) →
 ((l5.length : Int) ≤ 1099511627776 ∧ (l6.length : Int) ≤ 1099511627776 ∧ (l29.length : Int) ≤ 1099511627776 ∧ (l30.length : Int) ≤ 1099511627776) ∧ (true = decide ((l5, l6, true) = (l29, l30, true)) → true = true) ∧ (false = decide ((l5, l6,
 true) = (l29, l30, true)) → false = true)))) ∧ (Fed l2 l3 true l4 true l29 l30 false → false = true) ∧ (Fed l2 l3 true l4 false l29 l30 false → ((l5.length : Int) ≤ 1099511627776 ∧ (l6.length : Int) ≤ 1099511627776 ∧ (l29.length : Int) ≤
 1099511627776 ∧ (l30.length : Int) ≤ 1099511627776) ∧ (true = decide ((l5, l6, true) = (l29, l30, false)) → ((l5.length : Int) ≤ 1099511627776 ∧ (l6.length : Int) ≤ 1099511627776 ∧ (l29.length : Int) ≤ 1099511627776 ∧ (l30.length : Int) ≤
 1099511627776) ∧ (true = decide ((l5, l6, true) = (l29, l30, false)) → true = true) ∧ (false = decide ((l5, l6, true) = (l29, l30, false)) → false = true)) ∧ (false = decide ((l5, l6, true) = (l29, l30, false)) → ((l5.length : Int) ≤
 1099511627776 ∧ (l6.length : Int) ≤ 1099511627776 ∧ (l29.length : Int) ≤ 1099511627776 ∧ (l30.length : Int) ≤ 1099511627776) ∧ (true = decide ((l5, l6, true) = (l29, l30, false)) → true = true) ∧ (false = decide ((l5, l6, true) = (l29, l30,
 false)) → false = true))))) ∧ (Fed l2 l3 true l4 true l5 l6 false → ((l2.length : Int) ≤ 10000000000 ∧ (l3.length : Int) ≤ 10000000000 ∧ (l4.length : Int) ≤ 10000000000) ∧ ∀ (l31 l32 : List Int), ((Fed l2 l3 true l4 true l31 l32 true →
 ((l5.length : Int) ≤ 1099511627776 ∧ (l6.length : Int) ≤ 1099511627776 ∧ (l31.length : Int) ≤ 1099511627776 ∧ (l32.length : Int) ≤ 1099511627776) ∧ (true = decide ((l5, l6, false) = (l31, l32, true)) → (-9223372036854775808 ≤ (l4.length :
 Int) + 1 ∧ (l4.length : Int) + (1 : Int) ≤ (9223372036854775807 : Int)) ∧ 0 ≤ (l1.length : Int) ∧ 0 < (l4.length : Int) + 1 ∧ 0 ≤ (l1.length : Int) % ((l4.length : Int) + 1) ∧ (l1.length : Int) % ((l4.length : Int) + 1) ≤ (l4.length : Int) ∧
 (∃ (xs : List Int), ∃ (xs_1 : List Int), ∃ (b : Bool), ∃ (b_1 : Bool), Fed l2 l3 true (List.take (Int.toNat ((l1.length : Int) % ((l4.length : Int) + 1))) l4) b_1 xs xs_1 b) ∧ ((l2.length : Int) ≤ 10000000000 ∧ (l3.length : Int) ≤
 10000000000 ∧ (↑(List.length (List.take (Int.toNat ((l1.length : Int) % ((l4.length : Int) + 1))) l4)) : Int) ≤ 10000000000) ∧ ∀ (l33 l34 : List Int), ((Fed l2 l3 true (List.take (Int.toNat ((l1.length : Int) % ((l4.length : Int) + 1))) l4)
 true l33 l34 true → 0 ≤ (l1.length : Int) % ((l4.length : Int) + 1) ∧ (l1.length : Int) % ((l4.length : Int) + 1) ≤ (l4.length : Int) ∧ (∃ (xs : List Int), ∃ (xs_1 : List Int), ∃ (b : Bool), ∃ (b_1 : Bool), Fed l33 l34 true (List.drop
 (Int.toNat ((l1.length : Int) % ((l4.length : Int) + 1))) l4) b_1 xs xs_1 b) ∧ ((l33.length : Int) ≤ 10000000000 ∧ (l34.length : Int) ≤ 10000000000 ∧ (↑(List.length (List.drop (Int.toNat ((l1.length : Int) % ((l4.length : Int) + 1))) l4)) :
 Int) ≤ 10000000000) ∧ ∀ (l35 l36 : List Int), ((Fed l33 l34 true (List.drop (Int.toNat ((l1.length : Int) % ((l4.length : Int) + 1))) l4) true l35 l36 true → ((l35.length : Int) ≤ 1099511627776 ∧ (l36.length : Int) ≤ 1099511627776 ∧
 (l5.length : Int) ≤ 1099511627776 ∧ (l6.length : Int) ≤ 1099511627776) ∧ (true = decide ((l35, l36, true) = (l5, l6, false)) → true = true) ∧ (false = decide ((l35, l36, true) = (l5, l6, false)) → false = true)) ∧ (Fed l33 l34 true
 (List.drop (Int.toNat ((l1.length : Int) % ((l4.length : Int) + 1))) l4) false l35 l36 true → false = true)) ∧ (Fed l33 l34 true (List.drop (Int.toNat ((l1.length : Int) % ((l4.length : Int) + 1))) l4) true l35 l36 false → ((l35.length :
 Int) ≤ 1099511627776 ∧ (l36.length : Int) ≤ 1099511627776 ∧ (l5.length : Int) ≤ 1099511627776 ∧ (l6.length : Int) ≤ 1099511627776) ∧ (true = decide ((l35, l36, false) = (l5, l6, false)) → true = true) ∧ (false = decide ((l35, l36, false) =
 (l5, l6, false)) → false = true)) ∧ (Fed l33 l34 true (List.drop (Int.toNat ((l1.length : Int) % ((l4.length : Int) + 1))) l4) false l35 l36 false → false = true)) ∧ (Fed l2 l3 true (List.take (Int.toNat ((l1.length : Int) % ((l4.length :
 Int) + 1))) l4) false l33 l34 true → 0 ≤ (l1.length : Int) % ((l4.length : Int) + 1) ∧ (l1.length : Int) % ((l4.length : Int) + 1) ≤ (l4.length : Int) ∧ (∃ (xs : List Int), ∃ (xs_1 : List Int), ∃ (b : Bool), ∃ (b_1 : Bool), Fed l33 l34 true
 (List.drop (Int.toNat ((l1.length : Int) % ((l4.length : Int) + 1))) l4) b_1 xs xs_1 b) ∧ ((l33.length : Int) ≤ 10000000000 ∧ (l34.length : Int) ≤ 10000000000 ∧ (↑(List.length (List.drop (Int.toNat ((l1.length : Int) % ((l4.length : Int) +
 1))) l4)) : Int) ≤ 10000000000) ∧ ∀ (l37 l38 : List Int), ((Fed l33 l34 true (List.drop (Int.toNat ((l1.length : Int) % ((l4.length : Int) + 1))) l4) true l37 l38 true → false = true) ∧ (Fed l33 l34 true (List.drop (Int.toNat ((l1.length :
 Int) % ((l4.length : Int) + 1))) l4) false l37 l38 true → false = true)) ∧ (Fed l33 l34 true (List.drop (Int.toNat ((l1.length : Int) % ((l4.length : Int) + 1))) l4) true l37 l38 false → false = true) ∧ (Fed l33 l34 true (List.drop
 (Int.toNat ((l1.length : Int) % ((l4.length : Int) + 1))) l4) false l37 l38 false → false = true))) ∧ (Fed l2 l3 true (List.take (Int.toNat ((l1.length : Int) % ((l4.length : Int) + 1))) l4) true l33 l34 false → 0 ≤ (l1.length : Int) %
 ((l4.length : Int) + 1) ∧ (l1.length : Int) % ((l4.length : Int) + 1) ≤ (l4.length : Int) ∧ (∃ (xs : List Int), ∃ (xs_1 : List Int), ∃ (b : Bool), ∃ (b_1 : Bool), Fed l33 l34 false (List.drop (Int.toNat ((l1.length : Int) % ((l4.length :
 Int) + 1))) l4) b_1 xs xs_1 b) ∧ ((l33.length : Int) ≤ 10000000000 ∧ (l34.length : Int) ≤ 10000000000 ∧ (↑(List.length (List.drop (Int.toNat ((l1.length : Int) % ((l4.length : Int) + 1))) l4)) : Int) ≤ 10000000000) ∧ ∀ (l39 l40 : List Int),
 ((Fed l33 l34 false (List.drop (Int.toNat ((l1.length : Int) % ((l4.length : Int) + 1))) l4) true l39 l40 true → ((l39.length : Int) ≤ 1099511627776 ∧ (l40.length : Int) ≤ 1099511627776 ∧ (l5.length : Int) ≤ 1099511627776 ∧ (l6.length : Int)
 ≤ 1099511627776) ∧ (true = decide ((l39, l40, true) = (l5, l6, false)) → true = true) ∧ (false = decide ((l39, l40, true) = (l5, l6, false)) → false = true)) ∧ (Fed l33 l34 false (List.drop (Int.toNat ((l1.length : Int) % ((l4.length : Int)
 + 1))) l4) false l39 l40 true → false = true)) ∧ (Fed l33 l34 false (List.drop (Int.toNat ((l1.length : Int) % ((l4.length : Int) + 1))) l4) true l39 l40 false → ((l39.length : Int) ≤ 1099511627776 ∧ (l40.length : Int) ≤ 1099511627776 ∧
 (l5.length : Int) ≤ 1099511627776 ∧ (l6.length : Int) ≤ 1099511627776) ∧ (true = decide ((l39, l40, false) = (l5, l6, false)) → true = true) ∧ (false = decide ((l39, l40, false) = (l5, l6, false)) → false = true)) ∧ (Fed l33 l34 false
 (List.drop (Int.toNat ((l1.length : Int) % ((l4.length : Int) + 1))) l4) false l39 l40 false → false = true)) ∧ (Fed l2 l3 true (List.take (Int.toNat ((l1.length : Int) % ((l4.length : Int) + 1))) l4) false l33 l34 false → 0 ≤ (l1.length :
 Int) % ((l4.length : Int) + 1) ∧ (l1.length : Int) % ((l4.length : Int) + 1) ≤ (l4.length : Int) ∧ (∃ (xs : List Int), ∃ (xs_1 : List Int), ∃ (b : Bool), ∃ (b_1 : Bool), Fed l33 l34 false (List.drop (Int.toNat ((l1.length : Int) %
 ((l4.length : Int) + 1))) l4) b_1 xs xs_1 b) ∧ ((l33.length : Int) ≤ 10000000000 ∧ (l34.length : Int) ≤ 10000000000 ∧ (↑(List.length (List.drop (Int.toNat ((l1.length : Int) % ((l4.length : Int) + 1))) l4)) : Int) ≤ 10000000000) ∧ ∀ (l41 l42
 : List Int), ((Fed l33 l34 false (List.drop (Int.toNat ((l1.length : Int) % ((l4.length : Int) + 1))) l4) true l41 l42 true → false = true) ∧ (Fed l33 l34 false (List.drop (Int.toNat ((l1.length : Int) % ((l4.length : Int) + 1))) l4) false
 l41 l42 true → false = true)) ∧ (Fed l33 l34 false (List.drop (Int.toNat ((l1.length : Int) % ((l4.length : Int) + 1))) l4) true l41 l42 false → false = true) ∧ (Fed l33 l34 false (List.drop (Int.toNat ((l1.length : Int) % ((l4.length : Int)
 + 1))) l4) false l41 l42 false → false = true))) ∧ (false = decide ((l5, l6, false) = (l31, l32, true)) → ((l5.length : Int) ≤ 1099511627776 ∧ (l6.length : Int) ≤ 1099511627776 ∧ (l31.length : Int) ≤ 1099511627776 ∧ (l32.length : Int) ≤
 1099511627776) ∧ (true = decide ((l5, l6, false) = (l31, l32, true)) → true = true) ∧ (false = decide ((l5, l6, false) = (l31, l32, true)) → false = true))) ∧ (Fed l2 l3 true l4 false l31 l32 true → false = true)) ∧ (Fed l2 l3 true l4 true
 l31 l32 false → ((l5.length : Int) ≤ 1099511627776 ∧ (l6.length : Int) ≤ 1099511627776 ∧ (l31.length : Int) ≤ 1099511627776 ∧ (l32.length : Int) ≤ 1099511627776) ∧ (true = decide ((l5, l6, false) = (l31, l32, false)) → (-9223372036854775808
 ≤ (l4.length : Int) + 1 ∧ (l4.length : Int) + (1 : Int) ≤ (9223372036854775807 : Int)) ∧ 0 ≤ (l1.length : Int) ∧ 0 < (l4.length : Int) + 1 ∧ 0 ≤ (l1.length : Int) % ((l4.length : Int) + 1) ∧ (l1.length : Int) % ((l4.length : Int) + 1) ≤
 (l4.length : Int) ∧ (∃ (xs : List Int), ∃ (xs_1 : List Int), ∃ (b : Bool), ∃ (b_1 : Bool), Fed l2 l3 true (List.take (Int.toNat ((l1.length : Int) % ((l4.length : Int) + 1))) l4) b_1 xs xs_1 b) ∧ ((l2.length : Int) ≤ 10000000000 ∧ (l3.length
 : Int) ≤ 10000000000 ∧ (↑(List.length (List.take (Int.toNat ((l1.length : Int) % ((l4.length : Int) + 1))) l4)) : Int) ≤ 10000000000) ∧ ∀ (l43 l44 : List Int), ((Fed l2 l3 true (List.take (Int.toNat ((l1.length : Int) % ((l4.length : Int) +
 1))) l4) true l43 l44 true → 0 ≤ (l1.length : Int) % ((l4.length : Int) + 1) ∧ (l1.length : Int) % ((l4.length : Int) + 1) ≤ (l4.length : Int) ∧ (∃ (xs : List Int), ∃ (xs_1 : List Int), ∃ (b : Bool), ∃ (b_1 : Bool), Fed l43 l44 true
 (List.drop (Int.toNat ((l1.length : Int) % ((l4.length : Int) + 1))) l4) b_1 xs xs_1 b) ∧ ((l43.length : Int) ≤ 10000000000 ∧ (l44.length : Int) ≤ 10000000000 ∧ (↑(List.length (List.drop (Int.toNat ((l1.length : Int) % ((l4.length : Int) +
 1))) l4)) : Int) ≤ 10000000000) ∧ ∀ (l45 l46 : List Int), ((Fed l43 l44 true (List.drop (Int.toNat ((l1.length : Int) % ((l4.length : Int) + 1))) l4) true l45 l46 true → ((l45.length : Int) ≤ 1099511627776 ∧ (l46.length : Int) ≤
 1099511627776 ∧ (l5.length : Int) ≤ 1099511627776 ∧ (l6.length : Int) ≤ 1099511627776) ∧ (true = decide ((l45, l46, true) = (l5, l6, false)) → true = true) ∧ (false = decide ((l45, l46, true) = (l5, l6, false)) → false = true)) ∧ (Fed l43
 l44 true (List.drop (Int.toNat ((l1.length : Int) % ((l4.length : Int) + 1))) l4) false l45 l46 true → false = true)) ∧ (Fed l43 l44 true (List.drop (Int.toNat ((l1.length : Int) % ((l4.length : Int) + 1))) l4) true l45 l46 false →
 ((l45.length : Int) ≤ 1099511627776 ∧ (l46.length : Int) ≤ 1099511627776 ∧ (l5.length : Int) ≤ 1099511627776 ∧ (l6.length : Int) ≤ 1099511627776) ∧ (true = decide ((l45, l46, false) = (l5, l6, false)) → true = true) ∧ (false = decide ((l45,
 l46, false) = (l5, l6, false)) → false = true)) ∧ (Fed l43 l44 true (List.drop (Int.toNat ((l1.length : Int) % ((l4.length : Int) + 1))) l4) false l45 l46 false → false = true)) ∧ (Fed l2 l3 true (List.take (Int.toNat ((l1.length : Int) %
 ((l4.length : Int) + 1))) l4) false l43 l44 true → 0 ≤ (l1.length : Int) % ((l4.length : Int) + 1) ∧ (l1.length : Int) % ((l4.length : Int) + 1) ≤ (l4.length : Int) ∧ (∃ (xs : List Int), ∃ (xs_1 : List Int), ∃ (b : Bool), ∃ (b_1 : Bool), Fed
 l43 l44 true (List.drop (Int.toNat ((l1.length : Int) % ((l4.length : Int) + 1))) l4) b_1 xs xs_1 b) ∧ ((l43.length : Int) ≤ 10000000000 ∧ (l44.length : Int) ≤ 10000000000 ∧ (↑(List.length (List.drop (Int.toNat ((l1.length : Int) %
 ((l4.length : Int) + 1))) l4)) : Int) ≤ 10000000000) ∧ ∀ (l47 l48 : List Int), ((Fed l43 l44 true (List.drop (Int.toNat ((l1.length : Int) % ((l4.length : Int) + 1))) l4) true l47 l48 true → false = true) ∧ (Fed l43 l44 true (List.drop
 (Int.toNat ((l1.length : Int) % ((l4.length : Int) + 1))) l4) false l47 l48 true → false = true)) ∧ (Fed l43 l44 true (List.drop (Int.toNat ((l1.length : Int) % ((l4.length : Int) + 1))) l4) true l47 l48 false → false = true) ∧ (Fed l43 l44
 true (List.drop (Int.toNat ((l1.length : Int) % ((l4.length : Int) + 1))) l4) false l47 l48 false → false = true))) ∧ (Fed l2 l3 true (List.take (Int.toNat ((l1.length : Int) % ((l4.length : Int) + 1))) l4) true l43 l44 false → 0 ≤
 (l1.length : Int) % ((l4.length : Int) + 1) ∧ (l1.length : Int) % ((l4.length : Int) + 1) ≤ (l4.length : Int) ∧ (∃ (xs : List Int), ∃ (xs_1 : List Int), ∃ (b : Bool), ∃ (b_1 : Bool), Fed l43 l44 false (List.drop (Int.toNat ((l1.length : Int)
 % ((l4.length : Int) + 1))) l4) b_1 xs xs_1 b) ∧ ((l43.length : Int) ≤ 10000000000 ∧ (l44.length : Int) ≤ 10000000000 ∧ (↑(List.length (List.drop (Int.toNat ((l1.length : Int) % ((l4.length : Int) + 1))) l4)) : Int) ≤ 10000000000) ∧ ∀ (l49
 l50 : List Int), ((Fed l43 l44 false (List.drop (Int.toNat ((l1.length : Int) % ((l4.length : Int) + 1))) l4) true l49 l50 true → ((l49.length : Int) ≤ 1099511627776 ∧ (l50.length : Int) ≤ 1099511627776 ∧ (l5.length : Int) ≤ 1099511627776 ∧
 (l6.length : Int) ≤ 1099511627776) ∧ (true = decide ((l49, l50, true) = (l5, l6, false)) → true = true) ∧ (false = decide ((l49, l50, true) = (l5, l6, false)) → false = true)) ∧ (Fed l43 l44 false (List.drop (Int.toNat ((l1.length : Int) %
 ((l4.length : Int) + 1))) l4) false l49 l50 true → false = true)) ∧ (Fed l43 l44 false (List.drop (Int.toNat ((l1.length : Int) % ((l4.length : Int) + 1))) l4) true l49 l50 false → ((l49.length : Int) ≤ 1099511627776 ∧ (l50.length : Int) ≤
 1099511627776 ∧ (l5.length : Int) ≤ 1099511627776 ∧ (l6.length : Int) ≤ 1099511627776) ∧ (true = decide ((l49, l50, false) = (l5, l6, false)) → true = true) ∧ (false = decide ((l49, l50, false) = (l5, l6, false)) → false = true)) ∧ (Fed l43
 l44 false (List.drop (Int.toNat ((l1.length : Int) % ((l4.length : Int) + 1))) l4) false l49 l50 false → false = true)) ∧ (Fed l2 l3 true (List.take (Int.toNat ((l1.length : Int) % ((l4.length : Int) + 1))) l4) false l43 l44 false → 0 ≤
 (l1.length : Int) % ((l4.length : Int) + 1) ∧ (l1.length : Int) % ((l4.length : Int) + 1) ≤ (l4.length : Int) ∧ (∃ (xs : List Int), ∃ (xs_1 : List Int), ∃ (b : Bool), ∃ (b_1 : Bool), Fed l43 l44 false (List.drop (Int.toNat ((l1.length : Int)
 % ((l4.length : Int) + 1))) l4) b_1 xs xs_1 b) ∧ ((l43.length : Int) ≤ 10000000000 ∧ (l44.length : Int) ≤ 10000000000 ∧ (↑(List.length (List.drop (Int.toNat ((l1.length : Int) % ((l4.length : Int) + 1))) l4)) : Int) ≤ 10000000000) ∧ ∀ (l51
 l52 : List Int), ((Fed l43 l44 false (List.drop (Int.toNat ((l1.length : Int) % ((l4.length : Int) + 1))) l4) true l51 l52 true → false = true) ∧ (Fed l43 l44 false (List.drop (Int.toNat ((l1.length : Int) % ((l4.length : Int) + 1))) l4)
 false l51 l52 true → false = true)) ∧ (Fed l43 l44 false (List.drop (Int.toNat ((l1.length : Int) % ((l4.length : Int) + 1))) l4) true l51 l52 false → false = true) ∧ (Fed l43 l44 false (List.drop (Int.toNat ((l1.length : Int) % ((l4.length
 : Int) + 1))) l4) false l51 l52 false → false = true))) ∧ (false = decide ((l5, l6, false) = (l31, l32, false)) → ((l5.length : Int) ≤ 1099511627776 ∧ (l6.length : Int) ≤ 1099511627776 ∧ (l31.length : Int) ≤ 1099511627776 ∧ (l32.length :
 Int) ≤ 1099511627776) ∧ (true = decide ((l5, l6, false) = (l31, l32, false)) → true = true) ∧ (false = decide ((l5, l6, false) = (l31, l32, false)) → false = true))) ∧ (Fed l2 l3 true l4 false l31 l32 false → false = true)) ∧ (Fed l2 l3 true
 l4 false l5 l6 false → ((l2.length : Int) ≤ 10000000000 ∧ (l3.length : Int) ≤ 10000000000 ∧ (l4.length : Int) ≤ 10000000000) ∧ ∀ (l53 l54 : List Int), ((Fed l2 l3 true l4 true l53 l54 true → false = true) ∧ (Fed l2 l3 true l4 false l53 l54
 true → ((l5.length : Int) ≤ 1099511627776 ∧ (l6.length : Int) ≤ 1099511627776 ∧ (l53.length : Int) ≤ 1099511627776 ∧ (l54.length : Int) ≤ 1099511627776) ∧ (true = decide ((l5, l6, false) = (l53, l54, true)) → ((l5.length : Int) ≤
 1099511627776 ∧ (l6.length : Int) ≤ 1099511627776 ∧ (l53.length : Int) ≤ 1099511627776 ∧ (l54.length : Int) ≤ 1099511627776) ∧ (true = decide ((l5, l6, false) = (l53, l54, true)) → true = true) ∧ (false = decide ((l5, l6, false) = (l53, l54,
 true)) → false = true)) ∧ (false = decide ((l5, l6, false) = (l53, l54, true)) → ((l5.length : Int) ≤ 1099511627776 ∧ (l6.length : Int) ≤ 1099511627776 ∧ (l53.length : Int) ≤ 1099511627776 ∧ (l54.length : Int) ≤ 1099511627776) ∧ (true =
 decide ((l5, l6, false) = (l53, l54, true)) → true = true) ∧ (false = decide ((l5, l6, false) = (l53, l54, true)) → false = true)))) ∧ (Fed l2 l3 true l4 true l53 l54 false → false = true) ∧ (Fed l2 l3 true l4 false l53 l54 false →
 ((l5.length : Int) ≤ 1099511627776 ∧ (l6.length : Int) ≤ 1099511627776 ∧ (l53.length : Int) ≤ 1099511627776 ∧ (l54.length : Int) ≤ 1099511627776) ∧ (true = decide ((l5, l6, false) = (l53, l54, false)) → ((l5.length : Int) ≤ 1099511627776 ∧
 (l6.length : Int) ≤ 1099511627776 ∧ (l53.length : Int) ≤ 1099511627776 ∧ (l54.length : Int) ≤ 1099511627776) ∧ (true = decide ((l5, l6, false) = (l53, l54, false)) → true = true) ∧ (false = decide ((l5, l6, false) = (l53, l54, false)) →
 false = true)) ∧ (false = decide ((l5, l6, false) = (l53, l54, false)) → ((l5.length : Int) ≤ 1099511627776 ∧ (l6.length : Int) ≤ 1099511627776 ∧ (l53.length : Int) ≤ 1099511627776 ∧ (l54.length : Int) ≤ 1099511627776) ∧ (true = decide ((l5,
 l6, false) = (l53, l54, false)) → true = true) ∧ (false = decide ((l5, l6, false) = (l53, l54, false)) → false = true))))) ∧ ∀ (l55 : List Int), (l2.length : Int) ≤ 6000 ∧ (l3.length : Int) ≤ 200 ∧ (l55.length : Int) ≤ 6000 → ((l2.length :
 Int) ≤ 10000000000 ∧ (l3.length : Int) ≤ 10000000000 ∧ (l55.length : Int) ≤ 10000000000) ∧ ∀ (l56 l57 : List Int), ((Fed l2 l3 false l55 true l56 l57 true → ((l2.length : Int) ≤ 10000000000 ∧ (l3.length : Int) ≤ 10000000000 ∧ (l55.length :
 Int) ≤ 10000000000) ∧ ∀ (l58 l59 : List Int), ((Fed l2 l3 false l55 true l58 l59 true → ((l56.length : Int) ≤ 1099511627776 ∧ (l57.length : Int) ≤ 1099511627776 ∧ (l58.length : Int) ≤ 1099511627776 ∧ (l59.length : Int) ≤ 1099511627776) ∧
 (true = decide ((l56, l57, true) = (l58, l59, true)) → (-9223372036854775808 ≤ (l55.length : Int) + 1 ∧ (l55.length : Int) + (1 : Int) ≤ (9223372036854775807 : Int)) ∧ 0 ≤ (l1.length : Int) ∧ 0 < (l55.length : Int) + 1 ∧ 0 ≤ (l1.length :
 Int) % ((l55.length : Int) + 1) ∧ (l1.length : Int) % ((l55.length : Int) + 1) ≤ (l55.length : Int) ∧ (∃ (xs : List Int), ∃ (xs_1 : List Int), ∃ (b : Bool), ∃ (b_1 : Bool), Fed l2 l3 false (List.take (Int.toNat ((l1.length : Int) %
 ((l55.length : Int) + 1))) l55) b_1 xs xs_1 b) ∧ ((l2.length : Int) ≤ 10000000000 ∧ (l3.length : Int) ≤ 10000000000 ∧ (↑(List.length (List.take (Int.toNat ((l1.length : Int) % ((l55.length : Int) + 1))) l55)) : Int) ≤ 10000000000) ∧ ∀ (l60
 l61 : List Int), ((Fed l2 l3 false (List.take (Int.toNat ((l1.length : Int) % ((l55.length : Int) + 1))) l55) true l60 l61 true → 0 ≤ (l1.length : Int) % ((l55.length : Int) + 1) ∧ (l1.length : Int) % ((l55.length : Int) + 1) ≤ (l55.length :
 Int) ∧ (∃ (xs : List Int), ∃ (xs_1 : List Int), ∃ (b : Bool), ∃ (b_1 : Bool), Fed l60 l61 true (List.drop (Int.toNat ((l1.length : Int) % ((l55.length : Int) + 1))) l55) b_1 xs xs_1 b) ∧ ((l60.length : Int) ≤ 10000000000 ∧ (l61.length : Int)
 ≤ 10000000000 ∧ (↑(List.length (List.drop (Int.toNat ((l1.length : Int) % ((l55.length : Int) + 1))) l55)) : Int) ≤ 10000000000) ∧ ∀ (l62 l63 : List Int), ((Fed l60 l61 true (List.drop (Int.toNat ((l1.length : Int) % ((l55.length : Int) +
 1))) l55) true l62 l63 true → ((l62.length : Int) ≤ 1099511627776 ∧ (l63.length : Int) ≤ 1099511627776 ∧ (l56.length : Int) ≤ 1099511627776 ∧ (l57.length : Int) ≤ 1099511627776) ∧ (true = decide ((l62, l63, true) = (l56, l57, true)) → true =
 true) ∧ (false = decide ((l62, l63, true) = (l56, l57, true)) → false = true)) ∧ (Fed l60 l61 true (List.drop (Int.toNat ((l1.length : Int) % ((l55.length : Int) + 1))) l55) false l62 l63 true → false = true)) ∧ (Fed l60 l61 true (List.drop
 (Int.toNat ((l1.length : Int) % ((l55.length : Int) + 1))) l55) true l62 l63 false → ((l62.length : Int) ≤ 1099511627776 ∧ (l63.length : Int) ≤ 1099511627776 ∧ (l56.length : Int) ≤ 1099511627776 ∧ (l57.length : Int) ≤ 1099511627776) ∧ (true
 = decide ((l62, l63, false) = (l56, l57, true)) → true = true) ∧ (false = decide ((l62, l63, false) = (l56, l57, true)) → false = true)) ∧ (Fed l60 l61 true (List.drop (Int.toNat ((l1.length : Int) % ((l55.length : Int) + 1))) l55) false l62
 l63 false → false = true)) ∧ (Fed l2 l3 false (List.take (Int.toNat ((l1.length : Int) % ((l55.length : Int) + 1))) l55) false l60 l61 true → 0 ≤ (l1.length : Int) % ((l55.length : Int) + 1) ∧ (l1.length : Int) % ((l55.length : Int) + 1) ≤
 (l55.length : Int) ∧ (∃ (xs : List Int), ∃ (xs_1 : List Int), ∃ (b : Bool), ∃ (b_1 : Bool), Fed l60 l61 true (List.drop (Int.toNat ((l1.length : Int) % ((l55.length : Int) + 1))) l55) b_1 xs xs_1 b) ∧ ((l60.length : Int) ≤ 10000000000 ∧
 (l61.length : Int) ≤ 10000000000 ∧ (↑(List.length (List.drop (Int.toNat ((l1.length : Int) % ((l55.length : Int) + 1))) l55)) : Int) ≤ 10000000000) ∧ ∀ (l64 l65 : List Int), ((Fed l60 l61 true (List.drop (Int.toNat ((l1.length : Int) %
 ((l55.length : Int) + 1))) l55) true l64 l65 true → false = true) ∧ (Fed l60 l61 true (List.drop (Int.toNat ((l1.length : Int) % ((l55.length : Int) + 1))) l55) false l64 l65 true → false = true)) ∧ (Fed l60 l61 true (List.drop (Int.toNat
 ((l1.length : Int) % ((l55.length : Int) + 1))) l55) true l64 l65 false → false = true) ∧ (Fed l60 l61 true (List.drop (Int.toNat ((l1.length : Int) % ((l55.length : Int) + 1))) l55) false l64 l65 false → false = true))) ∧ (Fed l2 l3 false
 (List.take (Int.toNat ((l1.length : Int) % ((l55.length : Int) + 1))) l55) true l60 l61 false → 0 ≤ (l1.length : Int) % ((l55.length : Int) + 1) ∧ (l1.length : Int) % ((l55.length : Int) + 1) ≤ (l55.length : Int) ∧ (∃ (xs : List Int), ∃
 (xs_1 : List Int), ∃ (b : Bool), ∃ (b_1 : Bool), Fed l60 l61 false (List.drop (Int.toNat ((l1.length : Int) % ((l55.length : Int) + 1))) l55) b_1 xs xs_1 b) ∧ ((l60.length : Int) ≤ 10000000000 ∧ (l61.length : Int) ≤ 10000000000 ∧
 (↑(List.length (List.drop (Int.toNat ((l1.length : Int) % ((l55.length : Int) + 1))) l55)) : Int) ≤ 10000000000) ∧ ∀ (l66 l67 : List Int), ((Fed l60 l61 false (List.drop (Int.toNat ((l1.length : Int) % ((l55.length : Int) + 1))) l55) true
 l66 l67 true → ((l66.length : Int) ≤ 1099511627776 ∧ (l67.length : Int) ≤ 1099511627776 ∧ (l56.length : Int) ≤ 1099511627776 ∧ (l57.length : Int) ≤ 1099511627776) ∧ (true = decide ((l66, l67, true) = (l56, l57, true)) → true = true) ∧ (false
 = decide ((l66, l67, true) = (l56, l57, true)) → false = true)) ∧ (Fed l60 l61 false (List.drop (Int.toNat ((l1.length : Int) % ((l55.length : Int) + 1))) l55) false l66 l67 true → false = true)) ∧ (Fed l60 l61 false (List.drop (Int.toNat
 ((l1.length : Int) % ((l55.length : Int) + 1))) l55) true l66 l67 false → ((l66.length : Int) ≤ 1099511627776 ∧ (l67.length : Int) ≤ 1099511627776 ∧ (l56.length : Int) ≤ 1099511627776 ∧ (l57.length : Int) ≤ 1099511627776) ∧ (true = decide
 ((l66, l67, false) = (l56, l57, true)) → true = true) ∧ (false = decide ((l66, l67, false) = (l56, l57, true)) → false = true)) ∧ (Fed l60 l61 false (List.drop (Int.toNat ((l1.length : Int) % ((l55.length : Int) + 1))) l55) false l66 l67
 false → false = true)) ∧ (Fed l2 l3 false (List.take (Int.toNat ((l1.length : Int) % ((l55.length : Int) + 1))) l55) false l60 l61 false → 0 ≤ (l1.length : Int) % ((l55.length : Int) + 1) ∧ (l1.length : Int) % ((l55.length : Int) + 1) ≤
 (l55.length : Int) ∧ (∃ (xs : List Int), ∃ (xs_1 : List Int), ∃ (b : Bool), ∃ (b_1 : Bool), Fed l60 l61 false (List.drop (Int.toNat ((l1.length : Int) % ((l55.length : Int) + 1))) l55) b_1 xs xs_1 b) ∧ ((l60.length : Int) ≤ 10000000000 ∧
 (l61.length : Int) ≤ 10000000000 ∧ (↑(List.length (List.drop (Int.toNat ((l1.length : Int) % ((l55.length : Int) + 1))) l55)) : Int) ≤ 10000000000) ∧ ∀ (l68 l69 : List Int), ((Fed l60 l61 false (List.drop (Int.toNat ((l1.length : Int) %
 ((l55.length : Int) + 1))) l55) true l68 l69 true → false = true) ∧ (Fed l60 l61 false (List.drop (Int.toNat ((l1.length : Int) % ((l55.length : Int) + 1))) l55) false l68 l69 true → false = true)) ∧ (Fed l60 l61 false (List.drop (Int.toNat
 ((l1.length : Int) % ((l55.length : Int) + 1))) l55) true l68 l69 false → false = true) ∧ (Fed l60 l61 false (List.drop (Int.toNat ((l1.length : Int) % ((l55.length : Int) + 1))) l55) false l68 l69 false → false = true))) ∧ (false = decide
 ((l56, l57, true) = (l58, l59, true)) → ((l56.length : Int) ≤ 1099511627776 ∧ (l57.length : Int) ≤ 1099511627776 ∧ (l58.length : Int) ≤ 1099511627776 ∧ (l59.length : Int) ≤ 1099511627776) ∧ (true = decide ((l56, l57, true) = (l58, l59,
 true)) → true = true) ∧ (false = decide ((l56, l57, true) = (l58, l59, true)) → false = true))) ∧ (Fed l2 l3 false l55 false l58 l59 true → false = true)) ∧ (Fed l2 l3 false l55 true l58 l59 false → ((l56.length : Int) ≤ 1099511627776 ∧
 (l57.length : Int) ≤ 1099511627776 ∧ (l58.length : Int) ≤ 1099511627776 ∧ (l59.length : Int) ≤ 1099511627776) ∧ (true = decide ((l56, l57, true) = (l58, l59, false)) → (-9223372036854775808 ≤ (l55.length : Int) + 1 ∧ (l55.length : Int) + (1
 : Int) ≤ (9223372036854775807 : Int)) ∧ 0 ≤ (l1.length : Int) ∧ 0 < (l55.length : Int) + 1 ∧ 0 ≤ (l1.length : Int) % ((l55.length : Int) + 1) ∧ (l1.length : Int) % ((l55.length : Int) + 1) ≤ (l55.length : Int) ∧ (∃ (xs : List Int), ∃ (xs_1 :
 List Int), ∃ (b : Bool), ∃ (b_1 : Bool), Fed l2 l3 false (List.take (Int.toNat ((l1.length : Int) % ((l55.length : Int) + 1))) l55) b_1 xs xs_1 b) ∧ ((l2.length : Int) ≤ 10000000000 ∧ (l3.length : Int) ≤ 10000000000 ∧ (↑(List.length
 (List.take (Int.toNat ((l1.length : Int) % ((l55.length : Int) + 1))) l55)) : Int) ≤ 10000000000) ∧ ∀ (l70 l71 : List Int), ((Fed l2 l3 false (List.take (Int.toNat ((l1.length : Int) % ((l55.length : Int) + 1))) l55) true l70 l71 true → 0 ≤
 (l1.length : Int) % ((l55.length : Int) + 1) ∧ (l1.length : Int) % ((l55.length : Int) + 1) ≤ (l55.length : Int) ∧ (∃ (xs : List Int), ∃ (xs_1 : List Int), ∃ (b : Bool), ∃ (b_1 : Bool), Fed l70 l71 true (List.drop (Int.toNat ((l1.length :
 Int) % ((l55.length : Int) + 1))) l55) b_1 xs xs_1 b) ∧ ((l70.length : Int) ≤ 10000000000 ∧ (l71.length : Int) ≤ 10000000000 ∧ (↑(List.length (List.drop (Int.toNat ((l1.length : Int) % ((l55.length : Int) + 1))) l55)) : Int) ≤ 10000000000) ∧
 ∀ (l72 l73 : List Int), ((Fed l70 l71 true (List.drop (Int.toNat ((l1.length : Int) % ((l55.length : Int) + 1))) l55) true l72 l73 true → ((l72.length : Int) ≤ 1099511627776 ∧ (l73.length : Int) ≤ 1099511627776 ∧ (l56.length : Int) ≤
 1099511627776 ∧ (l57.length : Int) ≤ 1099511627776) ∧ (true = decide ((l72, l73, true) = (l56, l57, true)) → true = true) ∧ (false = decide ((l72, l73, true) = (l56, l57, true)) → false = true)) ∧ (Fed l70 l71 true (List.drop (Int.toNat
 ((l1.length : Int) % ((l55.length : Int) + 1))) l55) false l72 l73 true → false = true)) ∧ (Fed l70 l71 true (List.drop (Int.toNat ((l1.length : Int) % ((l55.length : Int) + 1))) l55) true l72 l73 false → ((l72.length : Int) ≤ 1099511627776
 ∧ (l73.length : Int) ≤ 1099511627776 ∧ (l56.length : Int) ≤ 1099511627776 ∧ (l57.length : Int) ≤ 1099511627776) ∧ (true = decide ((l72, l73, false) = (l56, l57, true)) → true = true) ∧ (false = decide ((l72, l73, false) = (l56, l57, true)) →
 false = true)) ∧ (Fed l70 l71 true (List.drop (Int.toNat ((l1.length : Int) % ((l55.length : Int) + 1))) l55) false l72 l73 false → false = true)) ∧ (Fed l2 l3 false (List.take (Int.toNat ((l1.length : Int) % ((l55.length : Int) + 1))) l55)
 false l70 l71 true → 0 ≤ (l1.length : Int) % ((l55.length : Int) + 1) ∧ (l1.length : Int) % ((l55.length : Int) + 1) ≤ (l55.length : Int) ∧ (∃ (xs : List Int), ∃ (xs_1 : List Int), ∃ (b : Bool), ∃ (b_1 : Bool), Fed l70 l71 true (List.drop
 (Int.toNat ((l1.length : Int) % ((l55.length : Int) + 1))) l55) b_1 xs xs_1 b) ∧ ((l70.length : Int) ≤ 10000000000 ∧ (l71.length : Int) ≤ 10000000000 ∧ (↑(List.length (List.drop (Int.toNat ((l1.length : Int) % ((l55.length : Int) + 1)))
 l55)) : Int) ≤ 10000000000) ∧ ∀ (l74 l75 : List Int), ((Fed l70 l71 true (List.drop (Int.toNat ((l1.length : Int) % ((l55.length : Int) + 1))) l55) true l74 l75 true → false = true) ∧ (Fed l70 l71 true (List.drop (Int.toNat ((l1.length :
 Int) % ((l55.length : Int) + 1))) l55) false l74 l75 true → false = true)) ∧ (Fed l70 l71 true (List.drop (Int.toNat ((l1.length : Int) % ((l55.length : Int) + 1))) l55) true l74 l75 false → false = true) ∧ (Fed l70 l71 true (List.drop
 (Int.toNat ((l1.length : Int) % ((l55.length : Int) + 1))) l55) false l74 l75 false → false = true))) ∧ (Fed l2 l3 false (List.take (Int.toNat ((l1.length : Int) % ((l55.length : Int) + 1))) l55) true l70 l71 false → 0 ≤ (l1.length : Int) %
 ((l55.length : Int) + 1) ∧ (l1.length : Int) % ((l55.length : Int) + 1) ≤ (l55.length : Int) ∧ (∃ (xs : List Int), ∃ (xs_1 : List Int), ∃ (b : Bool), ∃ (b_1 : Bool), Fed l70 l71 false (List.drop (Int.toNat ((l1.length : Int) % ((l55.length :
 Int) + 1))) l55) b_1 xs xs_1 b) ∧ ((l70.length : Int) ≤ 10000000000 ∧ (l71.length : Int) ≤ 10000000000 ∧ (↑(List.length (List.drop (Int.toNat ((l1.length : Int) % ((l55.length : Int) + 1))) l55)) : Int) ≤ 10000000000) ∧ ∀ (l76 l77 : List
 Int), ((Fed l70 l71 false (List.drop (Int.toNat ((l1.length : Int) % ((l55.length : Int) + 1))) l55) true l76 l77 true → ((l76.length : Int) ≤ 1099511627776 ∧ (l77.length : Int) ≤ 1099511627776 ∧ (l56.length : Int) ≤ 1099511627776 ∧
 (l57.length : Int) ≤ 1099511627776) ∧ (true = decide ((l76, l77, true) = (l56, l57, true)) → true = true) ∧ (false = decide ((l76, l77, true) = (l56, l57, true)) → false = true)) ∧ (Fed l70 l71 false (List.drop (Int.toNat ((l1.length : Int)
 % ((l55.length : Int) + 1))) l55) false l76 l77 true → false = true)) ∧ (Fed l70 l71 false (List.drop (Int.toNat ((l1.length : Int) % ((l55.length : Int) + 1))) l55) true l76 l77 false → ((l76.length : Int) ≤ 1099511627776 ∧ (l77.length :
 Int) ≤ 1099511627776 ∧ (l56.length : Int) ≤ 1099511627776 ∧ (l57.length : Int) ≤ 1099511627776) ∧ (true = decide ((l76, l77, false) = (l56, l57, true)) → true = true) ∧ (false = decide ((l76, l77, false) = (l56, l57, true)) → false = true))
 ∧ (Fed l70 l71 false (List.drop (Int.toNat ((l1.length : Int) % ((l55.length : Int) + 1))) l55) false l76 l77 false → false = true)) ∧ (Fed l2 l3 false (List.take (Int.toNat ((l1.length : Int) % ((l55.length : Int) + 1))) l55) false l70 l71
 false → 0 ≤ (l1.length : Int) % ((l55.length : Int) + 1) ∧ (l1.length : Int) % ((l55.length : Int) + 1) ≤ (l55.length : Int) ∧ (∃ (xs : List Int), ∃ (xs_1 : List Int), ∃ (b : Bool), ∃ (b_1 : Bool), Fed l70 l71 false (List.drop (Int.toNat
 ((l1.length : Int) % ((l55.length : Int) + 1))) l55) b_1 xs xs_1 b) ∧ ((l70.length : Int) ≤ 10000000000 ∧ (l71.length : Int) ≤ 10000000000 ∧ (↑(List.length (List.drop (Int.toNat ((l1.length : Int) % ((l55.length : Int) + 1))) l55)) : Int) ≤
 10000000000) ∧ ∀ (l78 l79 : List Int), ((Fed l70 l71 false (List.drop (Int.toNat ((l1.length : Int) % ((l55.length : Int) + 1))) l55) true l78 l79 true → false = true) ∧ (Fed l70 l71 false (List.drop (Int.toNat ((l1.length : Int) %
 ((l55.length : Int) + 1))) l55) false l78 l79 true → false = true)) ∧ (Fed l70 l71 false (List.drop (Int.toNat ((l1.length : Int) % ((l55.length : Int) + 1))) l55) true l78 l79 false → false = true) ∧ (Fed l70 l71 false (List.drop (Int.toNat
 ((l1.length : Int) % ((l55.length : Int) + 1))) l55) false l78 l79 false → false = true))) ∧ (false = decide ((l56, l57, true) = (l58, l59, false)) → ((l56.length : Int) ≤ 1099511627776 ∧ (l57.length : Int) ≤ 1099511627776 ∧ (l58.length :
 Int) ≤ 1099511627776 ∧ (l59.length : Int) ≤ 1099511627776) ∧ (true = decide ((l56, l57, true) = (l58, l59, false)) → true = true) ∧ (false = decide ((l56, l57, true) = (l58, l59, false)) → false = true))) ∧ (Fed l2 l3 false l55 false l58 l59
 false → false = true)) ∧ (Fed l2 l3 false l55 false l56 l57 true → ((l2.length : Int) ≤ 10000000000 ∧ (l3.length : Int) ≤ 10000000000 ∧ (l55.length : Int) ≤ 10000000000) ∧ ∀ (l80 l81 : List Int), ((Fed l2 l3 false l55 true l80 l81 true →
 false = true) ∧ (Fed l2 l3 false l55 false l80 l81 true → ((l56.length : Int) ≤ 1099511627776 ∧ (l57.length : Int) ≤ 1099511627776 ∧ (l80.length : Int) ≤ 1099511627776 ∧ (l81.length : Int) ≤ 1099511627776) ∧ (true = decide ((l56, l57, true)
 = (l80, l81, true)) → ((l56.length : Int) ≤ 1099511627776 ∧ (l57.length : Int) ≤ 1099511627776 ∧ (l80.length : Int) ≤ 1099511627776 ∧ (l81.length : Int) ≤ 1099511627776) ∧ (true = decide ((l56, l57, true) = (l80, l81, true)) → true = true) ∧
 (false = decide ((l56, l57, true) = (l80, l81, true)) → false = true)) ∧ (false = decide ((l56, l57, true) = (l80, l81, true)) → ((l56.length : Int) ≤ 1099511627776 ∧ (l57.length : Int) ≤ 1099511627776 ∧ (l80.length : Int) ≤ 1099511627776 ∧
 (l81.length : Int) ≤ 1099511627776) ∧ (true = decide ((l56, l57, true) = (l80, l81, true)) → true = true) ∧ (false = decide ((l56, l57, true) = (l80, l81, true)) → false = true)))) ∧ (Fed l2 l3 false l55 true l80 l81 false → false = true) ∧
 (Fed l2 l3 false l55 false l80 l81 false → ((l56.length : Int) ≤ 1099511627776 ∧ (l57.length : Int) ≤ 1099511627776 ∧ (l80.length : Int) ≤ 1099511627776 ∧ (l81.length : Int) ≤ 1099511627776) ∧ (true = decide ((l56, l57, true) = (l80, l81,
 false)) → ((l56.length : Int) ≤ 1099511627776 ∧ (l57.length : Int) ≤ 1099511627776 ∧ (l80.length : Int) ≤ 1099511627776 ∧ (l81.length : Int) ≤ 1099511627776) ∧ (true = decide ((l56, l57, true) = (l80, l81, false)) → true = true) ∧ (false =
 decide ((l56, l57, true) = (l80, l81, false)) → false = true)) ∧ (false = decide ((l56, l57, true) = (l80, l81, false)) → ((l56.length : Int) ≤ 1099511627776 ∧ (l57.length : Int) ≤ 1099511627776 ∧ (l80.length : Int) ≤ 1099511627776 ∧
 (l81.length : Int) ≤ 1099511627776) ∧ (true = decide ((l56, l57, true) = (l80, l81, false)) → true = true) ∧ (false = decide ((l56, l57, true) = (l80, l81, false)) → false = true))))) ∧ (Fed l2 l3 false l55 true l56 l57 false → ((l2.length :
 Int) ≤ 10000000000 ∧ (l3.length : Int) ≤ 10000000000 ∧ (l55.length : Int) ≤ 10000000000) ∧ ∀ (l82 l83 : List Int), ((Fed l2 l3 false l55 true l82 l83 true → ((l56.length : Int) ≤ 1099511627776 ∧ (l57.length : Int) ≤ 1099511627776 ∧
 (l82.length : Int) ≤ 1099511627776 ∧ (l83.length : Int) ≤ 1099511627776) ∧ (true = decide ((l56, l57, false) = (l82, l83, true)) → (-9223372036854775808 ≤ (l55.length : Int) + 1 ∧ (l55.length : Int) + (1 : Int) ≤ (9223372036854775807 : Int))
 ∧ 0 ≤ (l1.length : Int) ∧ 0 < (l55.length : Int) + 1 ∧ 0 ≤ (l1.length : Int) % ((l55.length : Int) + 1) ∧ (l1.length : Int) % ((l55.length : Int) + 1) ≤ (l55.length : Int) ∧ (∃ (xs : List Int), ∃ (xs_1 : List Int), ∃ (b : Bool), ∃ (b_1 :
 Bool), Fed l2 l3 false (List.take (Int.toNat ((l1.length : Int) % ((l55.length : Int) + 1))) l55) b_1 xs xs_1 b) ∧ ((l2.length : Int) ≤ 10000000000 ∧ (l3.length : Int) ≤ 10000000000 ∧ (↑(List.length (List.take (Int.toNat ((l1.length : Int) %
 ((l55.length : Int) + 1))) l55)) : Int) ≤ 10000000000) ∧ ∀ (l84 l85 : List Int), ((Fed l2 l3 false (List.take (Int.toNat ((l1.length : Int) % ((l55.length : Int) + 1))) l55) true l84 l85 true → 0 ≤ (l1.length : Int) % ((l55.length : Int) +
 1) ∧ (l1.length : Int) % ((l55.length : Int) + 1) ≤ (l55.length : Int) ∧ (∃ (xs : List Int), ∃ (xs_1 : List Int), ∃ (b : Bool), ∃ (b_1 : Bool), Fed l84 l85 true (List.drop (Int.toNat ((l1.length : Int) % ((l55.length : Int) + 1))) l55) b_1
 xs xs_1 b) ∧ ((l84.length : Int) ≤ 10000000000 ∧ (l85.length : Int) ≤ 10000000000 ∧ (↑(List.length (List.drop (Int.toNat ((l1.length : Int) % ((l55.length : Int) + 1))) l55)) : Int) ≤ 10000000000) ∧ ∀ (l86 l87 : List Int), ((Fed l84 l85 true
 (List.drop (Int.toNat ((l1.length : Int) % ((l55.length : Int) + 1))) l55) true l86 l87 true → ((l86.length : Int) ≤ 1099511627776 ∧ (l87.length : Int) ≤ 1099511627776 ∧ (l56.length : Int) ≤ 1099511627776 ∧ (l57.length : Int) ≤
 1099511627776) ∧ (true = decide ((l86, l87, true) = (l56, l57, false)) → true = true) ∧ (false = decide ((l86, l87, true) = (l56, l57, false)) → false = true)) ∧ (Fed l84 l85 true (List.drop (Int.toNat ((l1.length : Int) % ((l55.length :
 Int) + 1))) l55) false l86 l87 true → false = true)) ∧ (Fed l84 l85 true (List.drop (Int.toNat ((l1.length : Int) % ((l55.length : Int) + 1))) l55) true l86 l87 false → ((l86.length : Int) ≤ 1099511627776 ∧ (l87.length : Int) ≤ 1099511627776
 ∧ (l56.length : Int) ≤ 1099511627776 ∧ (l57.length : Int) ≤ 1099511627776) ∧ (true = decide ((l86, l87, false) = (l56, l57, false)) → true = true) ∧ (false = decide ((l86, l87, false) = (l56, l57, false)) → false = true)) ∧ (Fed l84 l85 true
 (List.drop (Int.toNat ((l1.length : Int) % ((l55.length : Int) + 1))) l55) false l86 l87 false → false = true)) ∧ (Fed l2 l3 false (List.take (Int.toNat ((l1.length : Int) % ((l55.length : Int) + 1))) l55) false l84 l85 true → 0 ≤ (l1.length
 : Int) % ((l55.length : Int) + 1) ∧ (l1.length : Int) % ((l55.length : Int) + 1) ≤ (l55.length : Int) ∧ (∃ (xs : List Int), ∃ (xs_1 : List Int), ∃ (b : Bool), ∃ (b_1 : Bool), Fed l84 l85 true (List.drop (Int.toNat ((l1.length : Int) %
 ((l55.length : Int) + 1))) l55) b_1 xs xs_1 b) ∧ ((l84.length : Int) ≤ 10000000000 ∧ (l85.length : Int) ≤ 10000000000 ∧ (↑(List.length (List.drop (Int.toNat ((l1.length : Int) % ((l55.length : Int) + 1))) l55)) : Int) ≤ 10000000000) ∧ ∀ (l88
 l89 : List Int), ((Fed l84 l85 true (List.drop (Int.toNat ((l1.length : Int) % ((l55.length : Int) + 1))) l55) true l88 l89 true → false = true) ∧ (Fed l84 l85 true (List.drop (Int.toNat ((l1.length : Int) % ((l55.length : Int) + 1))) l55)
 false l88 l89 true → false = true)) ∧ (Fed l84 l85 true (List.drop (Int.toNat ((l1.length : Int) % ((l55.length : Int) + 1))) l55) true l88 l89 false → false = true) ∧ (Fed l84 l85 true (List.drop (Int.toNat ((l1.length : Int) % ((l55.length
 : Int) + 1))) l55) false l88 l89 false → false = true))) ∧ (Fed l2 l3 false (List.take (Int.toNat ((l1.length : Int) % ((l55.length : Int) + 1))) l55) true l84 l85 false → 0 ≤ (l1.length : Int) % ((l55.length : Int) + 1) ∧ (l1.length : Int)
 % ((l55.length : Int) + 1) ≤ (l55.length : Int) ∧ (∃ (xs : List Int), ∃ (xs_1 : List Int), ∃ (b : Bool), ∃ (b_1 : Bool), Fed l84 l85 false (List.drop (Int.toNat ((l1.length : Int) % ((l55.length : Int) + 1))) l55) b_1 xs xs_1 b) ∧
 ((l84.length : Int) ≤ 10000000000 ∧ (l85.length : Int) ≤ 10000000000 ∧ (↑(List.length (List.drop (Int.toNat ((l1.length : Int) % ((l55.length : Int) + 1))) l55)) : Int) ≤ 10000000000) ∧ ∀ (l90 l91 : List Int), ((Fed l84 l85 false (List.drop
 (Int.toNat ((l1.length : Int) % ((l55.length : Int) + 1))) l55) true l90 l91 true → ((l90.length : Int) ≤ 1099511627776 ∧ (l91.length : Int) ≤ 1099511627776 ∧ (l56.length : Int) ≤ 1099511627776 ∧ (l57.length : Int) ≤ 1099511627776) ∧ (true =
 decide ((l90, l91, true) = (l56, l57, false)) → true = true) ∧ (false = decide ((l90, l91, true) = (l56, l57, false)) → false = true)) ∧ (Fed l84 l85 false (List.drop (Int.toNat ((l1.length : Int) % ((l55.length : Int) + 1))) l55) false l90
 l91 true → false = true)) ∧ (Fed l84 l85 false (List.drop (Int.toNat ((l1.length : Int) % ((l55.length : Int) + 1))) l55) true l90 l91 false → ((l90.length : Int) ≤ 1099511627776 ∧ (l91.length : Int) ≤ 1099511627776 ∧ (l56.length : Int) ≤
 1099511627776 ∧ (l57.length : Int) ≤ 1099511627776) ∧ (true = decide ((l90, l91, false) = (l56, l57, false)) → true = true) ∧ (false = decide ((l90, l91, false) = (l56, l57, false)) → false = true)) ∧ (Fed l84 l85 false (List.drop (Int.toNat
 ((l1.length : Int) % ((l55.length : Int) + 1))) l55) false l90 l91 false → false = true)) ∧ (Fed l2 l3 false (List.take (Int.toNat ((l1.length : Int) % ((l55.length : Int) + 1))) l55) false l84 l85 false → 0 ≤ (l1.length : Int) %
 ((l55.length : Int) + 1) ∧ (l1.length : Int) % ((l55.length : Int) + 1) ≤ (l55.length : Int) ∧ (∃ (xs : List Int), ∃ (xs_1 : List Int), ∃ (b : Bool), ∃ (b_1 : Bool), Fed l84 l85 false (List.drop (Int.toNat ((l1.length : Int) % ((l55.length :
 Int) + 1))) l55) b_1 xs xs_1 b) ∧ ((l84.length : Int) ≤ 10000000000 ∧ (l85.length : Int) ≤ 10000000000 ∧ (↑(List.length (List.drop (Int.toNat ((l1.length : Int) % ((l55.length : Int) + 1))) l55)) : Int) ≤ 10000000000) ∧ ∀ (l92 l93 : List
 Int), ((Fed l84 l85 false (List.drop (Int.toNat ((l1.length : Int) % ((l55.length : Int) + 1))) l55) true l92 l93 true → false = true) ∧ (Fed l84 l85 false (List.drop (Int.toNat ((l1.length : Int) % ((l55.length : Int) + 1))) l55) false l92
 l93 true → false = true)) ∧ (Fed l84 l85 false (List.drop (Int.toNat ((l1.length : Int) % ((l55.length : Int) + 1))) l55) true l92 l93 false → false = true) ∧ (Fed l84 l85 false (List.drop (Int.toNat ((l1.length : Int) % ((l55.length : Int)
 + 1))) l55) false l92 l93 false → false = true))) ∧ (false = decide ((l56, l57, false) = (l82, l83, true)) → ((l56.length : Int) ≤ 1099511627776 ∧ (l57.length : Int) ≤ 1099511627776 ∧ (l82.length : Int) ≤ 1099511627776 ∧ (l83.length : Int) ≤
 1099511627776) ∧ (true = decide ((l56, l57, false) = (l82, l83, true)) → true = true) ∧ (false = decide ((l56, l57, false) = (l82, l83, true)) → false = true))) ∧ (Fed l2 l3 false l55 false l82 l83 true → false = true)) ∧ (Fed l2 l3 false
 l55 true l82 l83 false → ((l56.length : Int) ≤ 1099511627776 ∧ (l57.length : Int) ≤ 1099511627776 ∧ (l82.length : Int) ≤ 1099511627776 ∧ (l83.length : Int) ≤ 1099511627776) ∧ (true = decide ((l56, l57, false) = (l82, l83, false)) →
 (-9223372036854775808 ≤ (l55.length : Int) + 1 ∧ (l55.length : Int) + (1 : Int) ≤ (9223372036854775807 : Int)) ∧ 0 ≤ (l1.length : Int) ∧ 0 < (l55.length : Int) + 1 ∧ 0 ≤ (l1.length : Int) % ((l55.length : Int) + 1) ∧ (l1.length : Int) %
 ((l55.length : Int) + 1) ≤ (l55.length : Int) ∧ (∃ (xs : List Int), ∃ (xs_1 : List Int), ∃ (b : Bool), ∃ (b_1 : Bool), Fed l2 l3 false (List.take (Int.toNat ((l1.length : Int) % ((l55.length : Int) + 1))) l55) b_1 xs xs_1 b) ∧ ((l2.length :
 Int) ≤ 10000000000 ∧ (l3.length : Int) ≤ 10000000000 ∧ (↑(List.length (List.take (Int.toNat ((l1.length : Int) % ((l55.length : Int) + 1))) l55)) : Int) ≤ 10000000000) ∧ ∀ (l94 l95 : List Int), ((Fed l2 l3 false (List.take (Int.toNat
 ((l1.length : Int) % ((l55.length : Int) + 1))) l55) true l94 l95 true → 0 ≤ (l1.length : Int) % ((l55.length : Int) + 1) ∧ (l1.length : Int) % ((l55.length : Int) + 1) ≤ (l55.length : Int) ∧ (∃ (xs : List Int), ∃ (xs_1 : List Int), ∃ (b :
 Bool), ∃ (b_1 : Bool), Fed l94 l95 true (List.drop (Int.toNat ((l1.length : Int) % ((l55.length : Int) + 1))) l55) b_1 xs xs_1 b) ∧ ((l94.length : Int) ≤ 10000000000 ∧ (l95.length : Int) ≤ 10000000000 ∧ (↑(List.length (List.drop (Int.toNat
 ((l1.length : Int) % ((l55.length : Int) + 1))) l55)) : Int) ≤ 10000000000) ∧ ∀ (l96 l97 : List Int), ((Fed l94 l95 true (List.drop (Int.toNat ((l1.length : Int) % ((l55.length : Int) + 1))) l55) true l96 l97 true → ((l96.length : Int) ≤
 1099511627776 ∧ (l97.length : Int) ≤ 1099511627776 ∧ (l56.length : Int) ≤ 1099511627776 ∧ (l57.length : Int) ≤ 1099511627776) ∧ (true = decide ((l96, l97, true) = (l56, l57, false)) → true = true) ∧ (false = decide ((l96, l97, true) = (l56,
 l57, false)) → false = true)) ∧ (Fed l94 l95 true (List.drop (Int.toNat ((l1.length : Int) % ((l55.length : Int) + 1))) l55) false l96 l97 true → false = true)) ∧ (Fed l94 l95 true (List.drop (Int.toNat ((l1.length : Int) % ((l55.length :
 Int) + 1))) l55) true l96 l97 false → ((l96.length : Int) ≤ 1099511627776 ∧ (l97.length : Int) ≤ 1099511627776 ∧ (l56.length : Int) ≤ 1099511627776 ∧ (l57.length : Int) ≤ 1099511627776) ∧ (true = decide ((l96, l97, false) = (l56, l57,
 false)) → true = true) ∧ (false = decide ((l96, l97, false) = (l56, l57, false)) → false = true)) ∧ (Fed l94 l95 true (List.drop (Int.toNat ((l1.length : Int) % ((l55.length : Int) + 1))) l55) false l96 l97 false → false = true)) ∧ (Fed l2
 l3 false (List.take (Int.toNat ((l1.length : Int) % ((l55.length : Int) + 1))) l55) false l94 l95 true → 0 ≤ (l1.length : Int) % ((l55.length : Int) + 1) ∧ (l1.length : Int) % ((l55.length : Int) + 1) ≤ (l55.length : Int) ∧ (∃ (xs : List
 Int), ∃ (xs_1 : List Int), ∃ (b : Bool), ∃ (b_1 : Bool), Fed l94 l95 true (List.drop (Int.toNat ((l1.length : Int) % ((l55.length : Int) + 1))) l55) b_1 xs xs_1 b) ∧ ((l94.length : Int) ≤ 10000000000 ∧ (l95.length : Int) ≤ 10000000000 ∧
 (↑(List.length (List.drop (Int.toNat ((l1.length : Int) % ((l55.length : Int) + 1))) l55)) : Int) ≤ 10000000000) ∧ ∀ (l98 l99 : List Int), ((Fed l94 l95 true (List.drop (Int.toNat ((l1.length : Int) % ((l55.length : Int) + 1))) l55) true l98
 l99 true → false = true) ∧ (Fed l94 l95 true (List.drop (Int.toNat ((l1.length : Int) % ((l55.length : Int) + 1))) l55) false l98 l99 true → false = true)) ∧ (Fed l94 l95 true (List.drop (Int.toNat ((l1.length : Int) % ((l55.length : Int) +
 1))) l55) true l98 l99 false → false = true) ∧ (Fed l94 l95 true (List.drop (Int.toNat ((l1.length : Int) % ((l55.length : Int) + 1))) l55) false l98 l99 false → false = true))) ∧ (Fed l2 l3 false (List.take (Int.toNat ((l1.length : Int) %
 ((l55.length : Int) + 1))) l55) true l94 l95 false → 0 ≤ (l1.length : Int) % ((l55.length : Int) + 1) ∧ (l1.length : Int) % ((l55.length : Int) + 1) ≤ (l55.length : Int) ∧ (∃ (xs : List Int), ∃ (xs_1 : List Int), ∃ (b : Bool), ∃ (b_1 :
 Bool), Fed l94 l95 false (List.drop (Int.toNat ((l1.length : Int) % ((l55.length : Int) + 1))) l55) b_1 xs xs_1 b) ∧ ((l94.length : Int) ≤ 10000000000 ∧ (l95.length : Int) ≤ 10000000000 ∧ (↑(List.length (List.drop (Int.toNat ((l1.length :
 Int) % ((l55.length : Int) + 1))) l55)) : Int) ≤ 10000000000) ∧ ∀ (l100 l101 : List Int), ((Fed l94 l95 false (List.drop (Int.toNat ((l1.length : Int) % ((l55.length : Int) + 1))) l55) true l100 l101 true → ((l100.length : Int) ≤
 1099511627776 ∧ (l101.length : Int) ≤ 1099511627776 ∧ (l56.length : Int) ≤ 1099511627776 ∧ (l57.length : Int) ≤ 1099511627776) ∧ (true = decide ((l100, l101, true) = (l56, l57, false)) → true = true) ∧ (false = decide ((l100, l101, true) =
 (l56, l57, false)) → false = true)) ∧ (Fed l94 l95 false (List.drop (Int.toNat ((l1.length : Int) % ((l55.length : Int) + 1))) l55) false l100 l101 true → false = true)) ∧ (Fed l94 l95 false (List.drop (Int.toNat ((l1.length : Int) %
 ((l55.length : Int) + 1))) l55) true l100 l101 false → ((l100.length : Int) ≤ 1099511627776 ∧ (l101.length : Int) ≤ 1099511627776 ∧ (l56.length : Int) ≤ 1099511627776 ∧ (l57.length : Int) ≤ 1099511627776) ∧ (true = decide ((l100, l101,
 false) = (l56, l57, false)) → true = true) ∧ (false = decide ((l100, l101, false) = (l56, l57, false)) → false = true)) ∧ (Fed l94 l95 false (List.drop (Int.toNat ((l1.length : Int) % ((l55.length : Int) + 1))) l55) false l100 l101 false →
 false = true)) ∧ (Fed l2 l3 false (List.take (Int.toNat ((l1.length : Int) % ((l55.length : Int) + 1))) l55) false l94 l95 false → 0 ≤ (l1.length : Int) % ((l55.length : Int) + 1) ∧ (l1.length : Int) % ((l55.length : Int) + 1) ≤ (l55.length
 : Int) ∧ (∃ (xs : List Int), ∃ (xs_1 : List Int), ∃ (b : Bool), ∃ (b_1 : Bool), Fed l94 l95 false (List.drop (Int.toNat ((l1.length : Int) % ((l55.length : Int) + 1))) l55) b_1 xs xs_1 b) ∧ ((l94.length : Int) ≤ 10000000000 ∧ (l95.length :
 Int) ≤ 10000000000 ∧ (↑(List.length (List.drop (Int.toNat ((l1.length : Int) % ((l55.length : Int) + 1))) l55)) : Int) ≤ 10000000000) ∧ ∀ (l102 l103 : List Int), ((Fed l94 l95 false (List.drop (Int.toNat ((l1.length : Int) % ((l55.length :
 Int) + 1))) l55) true l102 l103 true → false = true) ∧ (Fed l94 l95 false (List.drop (Int.toNat ((l1.length : Int) % ((l55.length : Int) + 1))) l55) false l102 l103 true → false = true)) ∧ (Fed l94 l95 false (List.drop (Int.toNat ((l1.length
 : Int) % ((l55.length : Int) + 1))) l55) true l102 l103 false → false = true) ∧ (Fed l94 l95 false (List.drop (Int.toNat ((l1.length : Int) % ((l55.length : Int) + 1))) l55) false l102 l103 false → false = true))) ∧ (false = decide ((l56,
 l57, false) = (l82, l83, false)) → ((l56.length : Int) ≤ 1099511627776 ∧ (l57.length : Int) ≤ 1099511627776 ∧ (l82.length : Int) ≤ 1099511627776 ∧ (l83.length : Int) ≤ 1099511627776) ∧ (true = decide ((l56, l57, false) = (l82, l83, false)) →
 true = true) ∧ (false = decide ((l56, l57, false) = (l82, l83, false)) → false = true))) ∧ (Fed l2 l3 false l55 false l82 l83 false → false = true)) ∧ (Fed l2 l3 false l55 false l56 l57 false → ((l2.length : Int) ≤ 10000000000 ∧ (l3.length :
 Int) ≤ 10000000000 ∧ (l55.length : Int) ≤ 10000000000) ∧ ∀ (l104 l105 : List Int), ((Fed l2 l3 false l55 true l104 l105 true → false = true) ∧ (Fed l2 l3 false l55 false l104 l105 true → ((l56.length : Int) ≤ 1099511627776 ∧ (l57.length :
 Int) ≤ 1099511627776 ∧ (l104.length : Int) ≤ 1099511627776 ∧ (l105.length : Int) ≤ 1099511627776) ∧ (true = decide ((l56, l57, false) = (l104, l105, true)) → ((l56.length : Int) ≤ 1099511627776 ∧ (l57.length : Int) ≤ 1099511627776 ∧
 (l104.length : Int) ≤ 1099511627776 ∧ (l105.length : Int) ≤ 1099511627776) ∧ (true = decide ((l56, l57, false) = (l104, l105, true)) → true = true) ∧ (false = decide ((l56, l57, false) = (l104, l105, true)) → false = true)) ∧ (false = decide
 ((l56, l57, false) = (l104, l105, true)) → ((l56.length : Int) ≤ 1099511627776 ∧ (l57.length : Int) ≤ 1099511627776 ∧ (l104.length : Int) ≤ 1099511627776 ∧ (l105.length : Int) ≤ 1099511627776) ∧ (true = decide ((l56, l57, false) = (l104,
 l105, true)) → true = true) ∧ (false = decide ((l56, l57, false) = (l104, l105, true)) → false = true)))) ∧ (Fed l2 l3 false l55 true l104 l105 false → false = true) ∧ (Fed l2 l3 false l55 false l104 l105 false → ((l56.length : Int) ≤
 1099511627776 ∧ (l57.length : Int) ≤ 1099511627776 ∧ (l104.length : Int) ≤ 1099511627776 ∧ (l105.length : Int) ≤ 1099511627776) ∧ (true = decide ((l56, l57, false) = (l104, l105, false)) → ((l56.length : Int) ≤ 1099511627776 ∧ (l57.length :
 Int) ≤ 1099511627776 ∧ (l104.length : Int) ≤ 1099511627776 ∧ (l105.length : Int) ≤ 1099511627776) ∧ (true = decide ((l56, l57, false) = (l104, l105, false)) → true = true) ∧ (false = decide ((l56, l57, false) = (l104, l105, false)) → false =
 true)) ∧ (false = decide ((l56, l57, false) = (l104, l105, false)) → ((l56.length : Int) ≤ 1099511627776 ∧ (l57.length : Int) ≤ 1099511627776 ∧ (l104.length : Int) ≤ 1099511627776 ∧ (l105.length : Int) ≤ 1099511627776) ∧ (true = decide
 ((l56, l57, false) = (l104, l105, false)) → true = true) ∧ (false = decide ((l56, l57, false) = (l104, l105, false)) → false = true))))))
theorem v_l_FnFeed : V_l_FnFeed := by
  unfold V_l_FnFeed
  intro code more ⟨hz, hm⟩
  refine ⟨fun _ => rfl, fun hc => ⟨fun _ => rfl, fun hd => ⟨by omega, fun w t => ⟨?_, ?_⟩⟩⟩⟩
  · rintro b ⟨hw, ht, hb⟩
    refine ⟨by omega, ?_⟩
    have c0 := Int.emod_nonneg (more.length : Int) (b := (b.length : Int) + 1) (by omega)
    have c1 := Int.emod_lt_of_pos (more.length : Int) (b := (b.length : Int) + 1) (by omega)
    simp only [↓feed_some, true_and]
    unfold Fed
    generalize (more.length : Int) % ((b.length : Int) + 1) = k at *
    cases hok : (rdOk w t true && allIn 0 255 b) with
    | false =>
      simp only [reduceCtorEq, false_and, true_and, false_implies, implies_true, if_false, if_true, Bool.false_eq_true, Prod.mk.injEq, and_true, and_false, and_imp]
      repeat' (first | apply And.intro | (rintro _ _ rfl rfl) | (rintro _ rfl) | intro _)
      all_goals (first | omega | with_reducible rfl | trivial | contradiction | (simp only [marks_len, marks3_len]; omega) | (rename_i h; simp [marks_len, marks3_len] at h; done) | (rename_i h; simp [marks_len, marks3_len] at h; omega) | (rename_i h _; simp at h; done) | (rename_i h _ _; simp at h; done) | grind)
    | true =>
      obtain ⟨q1, q2⟩ := Bool.and_eq_true_iff.1 hok
      have hP := allIn_take k.toNat q2
      have hQ := allIn_drop k.toNat q2
      have hkP := feedD_ok q1 hP
      have happ := feedD_app q1 hP hQ
      rw [List.take_append_drop] at happ
      have hl1 := List.length_take (i := k.toNat) (l := b)
      have hl2 := List.length_drop (i := k.toNat) (l := b)
      have okP : (rdOk w t true && allIn 0 255 (b.take k.toNat)) = true := by rw [q1, hP]; rfl
      have hk := feedD_ok q1 q2
      generalize b.take k.toNat = P at *
      generalize b.drop k.toNat = Q at *
      generalize feedD w t true b = R at *
      obtain ⟨x0, y0, z0⟩ := R
      generalize feedD w t true P = R1 at *
      obtain ⟨x1, y1, z1⟩ := R1
      dsimp only at *
      cases z0 <;> cases z1
      all_goals
        simp only [okP, reduceCtorEq, false_and, true_and, false_implies, implies_true, if_false, if_true, Bool.false_eq_true, Prod.mk.injEq, and_true, and_false, and_imp]
        repeat' (first | apply And.intro | (rintro _ _ rfl rfl) | (rintro _ rfl) | intro _)
        all_goals (first | omega | with_reducible rfl | trivial | contradiction | (simp only [marks_len, marks3_len]; omega) | (rename_i h; simp [marks_len, marks3_len] at h; done) | (rename_i h; simp [marks_len, marks3_len] at h; omega) | (rename_i h _; simp at h; done) | (rename_i h _ _; simp at h; done) | grind)
  · rintro b ⟨hw, ht, hb⟩
    refine ⟨by omega, ?_⟩
    have c0 := Int.emod_nonneg (more.length : Int) (b := (b.length : Int) + 1) (by omega)
    have c1 := Int.emod_lt_of_pos (more.length : Int) (b := (b.length : Int) + 1) (by omega)
    simp only [↓feed_some, true_and]
    unfold Fed
    generalize (more.length : Int) % ((b.length : Int) + 1) = k at *
    cases hok : (rdOk w t false && allIn 0 255 b) with
    | false =>
      simp only [reduceCtorEq, false_and, true_and, false_implies, implies_true, if_false, if_true, Bool.false_eq_true, Prod.mk.injEq, and_true, and_false, and_imp]
      repeat' (first | apply And.intro | (rintro _ _ rfl rfl) | (rintro _ rfl) | intro _)
      all_goals (first | omega | with_reducible rfl | trivial | contradiction | (simp only [marks_len, marks3_len]; omega) | (rename_i h; simp [marks_len, marks3_len] at h; done) | (rename_i h; simp [marks_len, marks3_len] at h; omega) | (rename_i h _; simp at h; done) | (rename_i h _ _; simp at h; done) | grind)
    | true =>
      obtain ⟨q1, q2⟩ := Bool.and_eq_true_iff.1 hok
      have hP := allIn_take k.toNat q2
      have hQ := allIn_drop k.toNat q2
      have hkP := feedD_ok q1 hP
      have happ := feedD_app q1 hP hQ
      rw [List.take_append_drop] at happ
      have hl1 := List.length_take (i := k.toNat) (l := b)
      have hl2 := List.length_drop (i := k.toNat) (l := b)
      have okP : (rdOk w t false && allIn 0 255 (b.take k.toNat)) = true := by rw [q1, hP]; rfl
      have hk := feedD_ok q1 q2
      generalize b.take k.toNat = P at *
      generalize b.drop k.toNat = Q at *
      generalize feedD w t false b = R at *
      obtain ⟨x0, y0, z0⟩ := R
      generalize feedD w t false P = R1 at *
      obtain ⟨x1, y1, z1⟩ := R1
      dsimp only at *
      cases z0 <;> cases z1
      all_goals
        simp only [okP, reduceCtorEq, false_and, true_and, false_implies, implies_true, if_false, if_true, Bool.false_eq_true, Prod.mk.injEq, and_true, and_false, and_imp]
        repeat' (first | apply And.intro | (rintro _ _ rfl rfl) | (rintro _ rfl) | intro _)
        all_goals (first | omega | with_reducible rfl | trivial | contradiction | (simp only [marks_len, marks3_len]; omega) | (rename_i h; simp [marks_len, marks3_len] at h; done) | (rename_i h; simp [marks_len, marks3_len] at h; omega) | (rename_i h _; simp at h; done) | (rename_i h _ _; simp at h; done) | grind)
def S_l_FnFeed : FSpec where
  args := [.sc (.sl .u8), .sc (.sl .u8)]
  outs := [.sc .bool]
  pre := fun a => match a with
    | [.sc (.sl .u8 code), .sc (.sl .u8 more)] => (((code).length : Nat) : Int) ≤ 9223372036854775807 ∧ (((more).length : Nat) : Int) ≤ 9223372036854775807
    | _ => False
  post := fun a r => match a, r with
    | [.sc (.sl .u8 code), .sc (.sl .u8 more)], [.sc (.bool r)] => r = true
    | _, _ => False
  kept := false
theorem m_l_FnFeed : Meets Try.prog 7 S_l_FnFeed :=
  meets tok mixed Try.func7 (by kernel_rfl) (l := [(12, S_s_StreamFeed), (15, S_i_StreamFeed), (28, S_s_DrawStreamFeed), (29, S_l_sameStream)]) ⟨m_s_StreamFeed, m_i_StreamFeed, m_s_DrawStreamFeed, m_l_sameStream, trivial⟩ (ann := []) v_l_FnFeed (by kernel_rfl)
theorem a_l_FnFeed : LawOf Try.prog Try.f7.params.toList S_l_FnFeed where
  args := by kernel_rfl
  outs := rfl
  pre := AKs.all_iff.1 (show AKs.all S_l_FnFeed.args (fun ds => bnds ds → S_l_FnFeed.pre ds) from fun x0 x1 h => ⟨h.1, h.2.1⟩)
  post := AKs.all_iff.1 (show AKs.all S_l_FnFeed.args (fun ds => ∀ b, S_l_FnFeed.post ds [.sc (.bool b)] → b = true) from fun x0 x1 _ h => h)
set_option maxRecDepth 100000 in
theorem lifted_l_FnFeed (os : Os) (started : os.Started) (H : Type) (enc : TypeId × Value → H) :
    ReturnsInHanded {} Try.checked os 7 .any (Rows.fnFeedSpec.pre6 enc Try.prog Try.f7 Rows.fnFeedRow.domain false) (Rows.fnFeedSpec.post enc Try.prog Try.f7 false true false false) :=
  law_lifted (C := Try.checked) (F := S_l_FnFeed) (by kernel_rfl) started (by kernel_rfl) Try.func7
    (ChangeSpec.witness6 (enc := enc) (C := Try.checked) false ⟨#[], #[.slice none 0 0, .slice none 0 0], []⟩ 8 (by kernel_rfl) (by kernel_rfl) (by kernel_rfl) (by kernel_rfl))
    m_l_FnFeed a_l_FnFeed (by kernel_rfl) (of_decide_eq_true (by kernel_rfl)) rfl (fun ds h => by match ds, h with | [d0, d1], _ => rfl) (by kernel_rfl) Try.underlying4
theorem facts_FnFeed : ∀ P : Program, P = Try.prog → P.initOrder.toList = ioNums.map Char.ofNat → joinedFacts P 7 Try.f7 Rows.fnFeedSpec Rows.fnFeedRow = true := by
  intro P hP h
  have h1 := io1 P hP h
  have h2 := io2 P hP h
  have h3 := io3 P hP h
  unfold joinedFacts
  rw [h1, h2, h3]
  subst hP
  show (_ : Bool) = true
  kernel_rfl
theorem proved_FnFeed : Rows.FnFeedSaid :=
  OpenClaim.holds_of_wide 7 Try.f7 rfl rfl rfl rfl rfl rfl rfl ⟨rfl, rfl, rfl, rfl, rfl⟩ rfl rfl rfl rfl rfl (by kernel_rfl) Try.func7 (facts_FnFeed _ rfl ioL)
    (of_decide_eq_true (by kernel_rfl)) (by unfold Func.isWrapper; first | (rw [if_pos (by decide +kernel)]; kernel_rfl) | (rw [if_neg (by decide +kernel)]; exact ⟨rfl, rfl⟩))
    (fun os started H enc _ => lifted_l_FnFeed os started H enc)
end Go.Proofs.Ytgimfahkojmplaa
