/-
  FnFeedValid: for every input the law returns true, and each argument reads afterwards as it read before. No conditions.
-/
import Derived.Test.YtgimfahkojmplaaRows
import Derived.Test.YtgimfahkojmplaaT
import Derived.Test.YtgimfahkojmplaaSa
import Derived.Test.YtgimfahkojmplaaSb
import Derived.Test.YtgimfahkojmplaaSf
import Derived.Test.YtgimfahkojmplaaSg
import Derived.Test.YtgimfahkojmplaaSj
import Derived.Test.YtgimfahkojmplaaSk
import Derived.Test.YtgimfahkojmplaaSl
import Derived.Test.YtgimfahkojmplaaSm
import Derived.Test.YtgimfahkojmplaaSn
import Derived.Test.YtgimfahkojmplaaSo
import Derived.Test.YtgimfahkojmplaaSp
import Derived.Test.YtgimfahkojmplaaSr
import Derived.Test.YtgimfahkojmplaaSs
import Derived.Test.YtgimfahkojmplaaSt
set_option linter.unusedVariables false
set_option linter.unusedSimpArgs false
open Go Go.Ax Go.Mx Go.ChangeShapes Go.WideShapes Go.RowKit Go.ChangeAt
namespace Go.Proofs.Ytgimfahkojmplaa
def V_l_FnFeedValid : Prop :=
  ∀ (l0 : List UInt8), (l0.length : Int) ≤ (9223372036854775807 : Int) → (1048576 < (l0.length : Int) → true = true) ∧ (¬1048576 < (l0.length : Int) → (l0.length : Int) ≤ 1099511627776 ∧ ∀ (l1 l2 : List Int), (∀ (l3 : List Int), (l1.length :
 Int) ≤ 6000 ∧ (l2.length : Int) ≤ 200 ∧ (l3.length : Int) ≤ 6000 → ((l1.length : Int) ≤ 10000000000 ∧ (l2.length : Int) ≤ 10000000000 ∧ (l3.length : Int) ≤ 10000000000) ∧ ∀ (l4 l5 : List Int), ((Fed l1 l2 true l3 true l4 l5 true →
 ((l1.length : Int) ≤ 10000000000 ∧ (l2.length : Int) ≤ 10000000000 ∧ (l3.length : Int) ≤ 10000000000) ∧ ∀ (l6 l7 : List Int), ((Fed l1 l2 true l3 true l6 l7 true → ((l4.length : Int) ≤ 1099511627776 ∧ (l5.length : Int) ≤ 1099511627776 ∧
 (l6.length : Int) ≤ 1099511627776 ∧ (l7.length : Int) ≤ 1099511627776) ∧ (true = decide ((l4, l5, true) = (l6, l7, true)) → (∃ (b : Bool), b = rdOk l4 l5 true) ∧ ((l4.length : Int) ≤ 1099511627776 ∧ (l5.length : Int) ≤ 1099511627776) ∧ (true
 = rdOk l4 l5 true → ((l2.length : Int) ≤ (l5.length : Int) → (0 : Int) ≤ 0 ∧ 0 ≤ (l2.length : Int) ∧ (l2.length : Int) ≤ (l5.length : Int) ∧ (∃ (b : Bool), b = decide (List.take (Int.toNat ((l2.length : Int) - 0)) (List.drop (Int.toNat 0)
 l5) = l2)) ∧ ((↑(List.length (List.take (Int.toNat ((l2.length : Int) - 0)) (List.drop (Int.toNat 0) l5))) : Int) ≤ 1099511627776 ∧ (l2.length : Int) ≤ 1099511627776) ∧ (true = decide (List.take (Int.toNat ((l2.length : Int) - 0)) (List.drop
 (Int.toNat 0) l5) = l2) → true = true) ∧ (false = decide (List.take (Int.toNat ((l2.length : Int) - 0)) (List.drop (Int.toNat 0) l5) = l2) → false = true)) ∧ (¬(l2.length : Int) ≤ (l5.length : Int) → false = true)) ∧ (false = rdOk l4 l5 true
 → false = true)) ∧ (false = decide ((l4, l5, true) = (l6, l7, true)) → ((l4.length : Int) ≤ 1099511627776 ∧ (l5.length : Int) ≤ 1099511627776 ∧ (l6.length : Int) ≤ 1099511627776 ∧ (l7.length : Int) ≤ 1099511627776) ∧ (true = decide ((l4, l5,
 true) = (l6, l7, true)) → true = true) ∧ (false = decide ((l4, l5, true) = (l6, l7, true)) → false = true))) ∧ (Fed l1 l2 true l3 false l6 l7 true → false = true)) ∧ (Fed l1 l2 true l3 true l6 l7 false → ((l4.length : Int) ≤ 1099511627776 ∧
 (l5.length : Int) ≤ 1099511627776 ∧ (l6.length : Int) ≤ 1099511627776 ∧ (l7.length : Int) ≤ 1099511627776) ∧ (true = decide ((l4, l5, true) = (l6, l7, false)) → (∃ (b : Bool), b = rdOk l4 l5 true) ∧ ((l4.length : Int) ≤ 1099511627776 ∧
 (l5.length : Int) ≤ 1099511627776) ∧ (true = rdOk l4 l5 true → ((l2.length : Int) ≤ (l5.length : Int) → (0 : Int) ≤ 0 ∧ 0 ≤ (l2.length : Int) ∧ (l2.length : Int) ≤ (l5.length : Int) ∧ (∃ (b : Bool), b = decide (List.take (Int.toNat
 ((l2.length : Int) - 0)) (List.drop (Int.toNat 0) l5) = l2)) ∧ ((↑(List.length (List.take (Int.toNat ((l2.length : Int) - 0)) (List.drop (Int.toNat 0) l5))) : Int) ≤ 1099511627776 ∧ (l2.length : Int) ≤ 1099511627776) ∧ (true = decide
 (List.take (Int.toNat ((l2.length : Int) - 0)) (List.drop (Int.toNat 0) l5) = l2) → true = true) ∧ (false = decide (List.take (Int.toNat ((l2.length : Int) - 0)) (List.drop (Int.toNat 0) l5) = l2) → false = true)) ∧ (¬(l2.length : Int) ≤
 (l5.length : Int) → false = true)) ∧ (false = rdOk l4 l5 true → false = true)) ∧ (false = decide ((l4, l5, true) = (l6, l7, false)) → ((l4.length : Int) ≤ 1099511627776 ∧ (l5.length : Int) ≤ 1099511627776 ∧ (l6.length : Int) ≤ 1099511627776
 ∧ (l7.length : Int) ≤ 1099511627776) ∧ (true = decide ((l4, l5, true) = (l6, l7, false)) → true = true) ∧ (false = decide ((l4, l5, true) = (l6, l7, false)) → false = true))) ∧ (Fed l1 l2 true l3 false l6 l7 false → false = true)) ∧ (Fed l1
 l2 true l3 false l4 l5 true → ((l1.length : Int) ≤ 10000000000 ∧ (l2.length : Int) ≤ 10000000000 ∧ (l3.length : Int) ≤ 10000000000) ∧ ∀ (l8 l9 : List Int), ((Fed l1 l2 true l3 true l8 l9 true → false = true) ∧ (Fed l1 l2 true l3 false l8 l9
 true → ((l4.length : Int) ≤ 1099511627776 ∧ (l5.length : Int) ≤ 1099511627776 ∧ (l8.length : Int) ≤ 1099511627776 ∧ (l9.length : Int) ≤ 1099511627776) ∧ (true = decide ((l4, l5, true) = (l8, l9, true)) → ((l4.length : Int) ≤ 1099511627776 ∧
 (l5.length : Int) ≤ 1099511627776 ∧ (l8.length : Int) ≤ 1099511627776 ∧ (l9.length : Int) ≤ 1099511627776) ∧ (true = decide ((l4, l5, true) = (l8, l9, true)) → true = true) ∧ (false = decide ((l4, l5, true) = (l8, l9, true)) → false = true))
 ∧ (false = decide ((l4, l5, true) = (l8, l9, true)) → ((l4.length : Int) ≤ 1099511627776 ∧ (l5.length : Int) ≤ 1099511627776 ∧ (l8.length : Int) ≤ 1099511627776 ∧ (l9.length : Int) ≤ 1099511627776) ∧ (true = decide ((l4, l5, true) = (l8, l9,
 true)) → true = true) ∧ (false = decide ((l4, l5, true) = (l8, l9, true)) → false = true)))) ∧ (Fed l1 l2 true l3 true l8 l9 false → false = true) ∧ (Fed l1 l2 true l3 false l8 l9 false → ((l4.length : Int) ≤ 1099511627776 ∧ (l5.length :
 Int) ≤ 1099511627776 ∧ (l8.length : Int) ≤ 1099511627776 ∧ (l9.length : Int) ≤ 1099511627776) ∧ (true = decide ((l4, l5, true) = (l8, l9, false)) → ((l4.length : Int) ≤ 1099511627776 ∧ (l5.length : Int) ≤ 1099511627776 ∧ (l8.length : Int) ≤
 1099511627776 ∧ (l9.length : Int) ≤ 1099511627776) ∧ (true = decide ((l4, l5, true) = (l8, l9, false)) → true = true) ∧ (false = decide ((l4, l5, true) = (l8, l9, false)) → false = true)) ∧ (false = decide ((l4, l5, true) = (l8, l9, false))
 → ((l4.length : Int) ≤ 1099511627776 ∧ (l5.length : Int) ≤ 1099511627776 ∧ (l8.length : Int) ≤ 1099511627776 ∧ (l9.length : Int) ≤ 1099511627776) ∧ (true = decide ((l4, l5, true) = (l8, l9, false)) → true = true) ∧ (false = decide ((l4, l5,
 true) = (l8, l9, false)) → false = true))))) ∧ (Fed l1 l2 true l3 true l4 l5 false → ((l1.length : Int) ≤ 10000000000 ∧ (l2.length : Int) ≤ 10000000000 ∧ (l3.length : Int) ≤ 10000000000) ∧ ∀ (l10 l11 : List Int), ((Fed l1 l2 true l3 true l10
 l11 true → ((l4.length : Int) ≤ 1099511627776 ∧ (l5.length : Int) ≤ 1099511627776 ∧ (l10.length : Int) ≤ 1099511627776 ∧ (l11.length : Int) ≤ 1099511627776) ∧ (true = decide ((l4, l5, false) = (l10, l11, true)) → (∃ (b : Bool), b = rdOk l4
 l5 false) ∧ ((l4.length : Int) ≤ 1099511627776 ∧ (l5.length : Int) ≤ 1099511627776) ∧ (true = rdOk l4 l5 false → ((l2.length : Int) ≤ (l5.length : Int) → (0 : Int) ≤ 0 ∧ 0 ≤ (l2.length : Int) ∧ (l2.length : Int) ≤ (l5.length : Int) ∧ (∃ (b :
 Bool), b = decide (List.take (Int.toNat ((l2.length : Int) - 0)) (List.drop (Int.toNat 0) l5) = l2)) ∧ ((↑(List.length (List.take (Int.toNat ((l2.length : Int) - 0)) (List.drop (Int.toNat 0) l5))) : Int) ≤ 1099511627776 ∧ (l2.length : Int) ≤
 1099511627776) ∧ (true = decide (List.take (Int.toNat ((l2.length : Int) - 0)) (List.drop (Int.toNat 0) l5) = l2) → true = true) ∧ (false = decide (List.take (Int.toNat ((l2.length : Int) - 0)) (List.drop (Int.toNat 0) l5) = l2) → false =
 true)) ∧ (¬(l2.length : Int) ≤ (l5.length : Int) → false = true)) ∧ (false = rdOk l4 l5 false → false = true)) ∧ (false = decide ((l4, l5, false) = (l10, l11, true)) → ((l4.length : Int) ≤ 1099511627776 ∧ (l5.length : Int) ≤ 1099511627776 ∧
 (l10.length : Int) ≤ 1099511627776 ∧ (l11.length : Int) ≤ 1099511627776) ∧ (true = decide ((l4, l5, false) = (l10, l11, true)) → true = true) ∧ (false = decide ((l4, l5, false) = (l10, l11, true)) → false = true))) ∧ (Fed l1 l2 true l3 false
 l10 l11 true → false = true)) ∧ (Fed l1 l2 true l3 true l10 l11 false → ((l4.length : Int) ≤ 1099511627776 ∧ (l5.length : Int) ≤ 1099511627776 ∧ (l10.length : Int) ≤ 1099511627776 ∧ (l11.length : Int) ≤ 1099511627776) ∧ (true = decide ((l4,
 l5, false) = (l10, l11, false)) → (∃ (b : Bool), b = rdOk l4 l5 false) ∧ ((l4.length : Int) ≤ 1099511627776 ∧ (l5.length : Int) ≤ 1099511627776) ∧ (true = rdOk l4 l5 false → ((l2.length : Int) ≤ (l5.length : Int) → (0 : Int) ≤ 0 ∧ 0 ≤
 (l2.length : Int) ∧ (l2.length : Int) ≤ (l5.length : Int) ∧ (∃ (b : Bool), b = decide (List.take (Int.toNat ((l2.length : Int) - 0)) (List.drop (Int.toNat 0) l5) = l2)) ∧ ((↑(List.length (List.take (Int.toNat ((l2.length : Int) - 0))
 (List.drop (Int.toNat 0) l5))) : Int) ≤ 1099511627776 ∧ (l2.length : Int) ≤ 1099511627776) ∧ (true = decide (List.take (Int.toNat ((l2.length : Int) - 0)) (List.drop (Int.toNat 0) l5) = l2) → true = true) ∧ (false = decide (List.take
 (Int.toNat ((l2.length : Int) - 0)) (List.drop (Int.toNat 0) l5) = l2) → false = true)) ∧ (¬(l2.length : Int) ≤ (l5.length : Int) → false = true)) ∧ (false = rdOk l4 l5 false → false = true)) ∧ (false = decide ((l4, l5, false) = (l10, l11,
 false)) → ((l4.length : Int) ≤ 1099511627776 ∧ (l5.length : Int) ≤ 1099511627776 ∧ (l10.length : Int) ≤ 1099511627776 ∧ (l11.length : Int) ≤ 1099511627776) ∧ (true = decide ((l4, l5, false) = (l10, l11, false)) → true = true) ∧ (false =
 decide ((l4, l5, false) = (l10, l11, false)) → false = true))) ∧ (Fed l1 l2 true l3 false l10 l11 false → false = true)) ∧ (Fed l1 l2 true l3 false l4 l5 false → ((l1.length : Int) ≤ 10000000000 ∧ (l2.length : Int) ≤ 10000000000 ∧ (l3.length
 : Int) ≤ 10000000000) ∧ ∀ (l12 l13 : List Int), ((Fed l1 l2 true l3 true l12 l13 true → false = true) ∧ (Fed l1 l2 true l3 false l12 l13 true → ((l4.length : Int) ≤ 1099511627776 ∧ (l5.length : Int) ≤ 1099511627776 ∧ (l12.length : Int) ≤
 1099511627776 ∧ (l13.length : Int) ≤ 1099511627776) ∧ (true = decide ((l4, l5, false) = (l12, l13, true)) → ((l4.length : Int) ≤ 1099511627776 ∧ (l5.length : Int) ≤ 1099511627776 ∧ (l12.length : Int) ≤ 1099511627776 ∧ (l13.length : Int) ≤
 1099511627776) ∧ (true = decide ((l4, l5, false) = (l12, l13, true)) → true = true) ∧ (false = decide ((l4, l5, false) = (l12, l13, true)) → false = true)) ∧ (false = decide ((l4, l5, false) = (l12, l13, true)) → ((l4.length : Int) ≤
 1099511627776 ∧ (l5.length : Int) ≤ 1099511627776 ∧ (l12.length : Int) ≤ 1099511627776 ∧ (l13.length : Int) ≤ 1099511627776) ∧ (true = decide ((l4, l5, false) = (l12, l13, true)) → true = true) ∧ (false = decide ((l4, l5, false) = (l12, l13,
 true)) → false = true)))) ∧ (Fed l1 l2 true l3 true l12 l13 false → false = true) ∧ (Fed l1 l2 true l3 false l12 l13 false → ((l4.length : Int) ≤ 1099511627776 ∧ (l5.length : Int) ≤ 1099511627776 ∧ (l12.length : Int) ≤ 1099511627776 ∧
 (l13.length : Int) ≤ 1099511627776) ∧ (true = decide ((l4, l5, false) = (l12, l13, false)) → ((l4.length : Int) ≤ 1099511627776 ∧ (l5.length : Int) ≤ 1099511627776 ∧ (l12.length : Int) ≤ 1099511627776 ∧ (l13.length : Int) ≤ 1099511627776) ∧
 (true = decide ((l4, l5, false) = (l12, l13, false)) → true = true) ∧ (false = decide ((l4, l5, false) = (l12, l13, false)) → false = true)) ∧ (false = decide ((l4, l5, false) = (l12, l13, false)) → ((l4.length : Int) ≤ 1099511627776 ∧
 (l5.length : Int) ≤ 1099511627776 ∧ (l12.length : Int) ≤ 1099511627776 ∧ (l13.length : Int) ≤ 1099511627776) ∧ (true = decide ((l4, l5, false) = (l12, l13, false)) → true = true) ∧ (false = decide ((l4, l5, false) = (l12, l13, false)) →
 false = true))))) ∧ ∀ (l14 : List Int), (l1.length : Int) ≤ 6000 ∧ (l2.length : Int) ≤ 200 ∧ (l14.length : Int) ≤ 6000 → ((l1.length : Int) ≤ 10000000000 ∧ (l2.length : Int) ≤ 10000000000 ∧ (l14.length : Int) ≤ 10000000000) ∧ ∀ (l15 l16 :
 List Int), ((Fed l1 l2 false l14 true l15 l16 true → ((l1.length : Int) ≤ 10000000000 ∧ (l2.length : Int) ≤ 10000000000 ∧ (l14.length : Int) ≤ 10000000000) ∧ ∀ (l17 l18 : List Int), ((Fed l1 l2 false l14 true l17 l18 true → ((l15.length :
 Int) ≤ 1099511627776 ∧ (l16.length : Int) ≤ 1099511627776 ∧ (l17.length : Int) ≤ 1099511627776 ∧ (l18.length : Int) ≤ 1099511627776) ∧ (true = decide ((l15, l16, true) = (l17, l18, true)) → (∃ (b : Bool), b = rdOk l15 l16 true) ∧
 ((l15.length : Int) ≤ 1099511627776 ∧ (l16.length : Int) ≤ 1099511627776) ∧ (true = rdOk l15 l16 true → ((l2.length : Int) ≤ (l16.length : Int) → (0 : Int) ≤ 0 ∧ 0 ≤ (l2.length : Int) ∧ (l2.length : Int) ≤ (l16.length : Int) ∧ (∃ (b : Bool),
 b = decide (List.take (Int.toNat ((l2.length : Int) - 0)) (List.drop (Int.toNat 0) l16) = l2)) ∧ ((↑(List.length (List.take (Int.toNat ((l2.length : Int) - 0)) (List.drop (Int.toNat 0) l16))) : Int) ≤ 1099511627776 ∧ (l2.length : Int) ≤
 1099511627776) ∧ (true = decide (List.take (Int.toNat ((l2.length : Int) - 0)) (List.drop (Int.toNat 0) l16) = l2) → true = true) ∧ (false = decide (List.take (Int.toNat ((l2.length : Int) - 0)) (List.drop (Int.toNat 0) l16) = l2) → false =
 true)) ∧ (¬(l2.length : Int) ≤ (l16.length : Int) → false = true)) ∧ (false = rdOk l15 l16 true → false = true)) ∧ (false = decide ((l15, l16, true) = (l17, l18, true)) → ((l15.length : Int) ≤ 1099511627776 ∧ (l16.length : Int) ≤
 1099511627776 ∧ (l17.length : Int) ≤ 1099511627776 ∧ (l18.length : Int) ≤ 1099511627776) ∧ (true = decide ((l15, l16, true) = (l17, l18, true)) → true = true) ∧ (false = decide ((l15, l16, true) = (l17, l18, true)) → false = true))) ∧ (Fed
 l1 l2 false l14 false l17 l18 true → false = true)) ∧ (Fed l1 l2 false l14 true l17 l18 false → ((l15.length : Int) ≤ 1099511627776 ∧ (l16.length : Int) ≤ 1099511627776 ∧ (l17.length : Int) ≤ 1099511627776 ∧ (l18.length : Int) ≤
 1099511627776) ∧ (true = decide ((l15, l16, true) = (l17, l18, false)) → (∃ (b : Bool), b = rdOk l15 l16 true) ∧ ((l15.length : Int) ≤ 1099511627776 ∧ (l16.length : Int) ≤ 1099511627776) ∧ (true = rdOk l15 l16 true → ((l2.length : Int) ≤
 (l16.length : Int) → (0 : Int) ≤ 0 ∧ 0 ≤ (l2.length : Int) ∧ (l2.length : Int) ≤ (l16.length : Int) ∧ (∃ (b : Bool), b = decide (List.take (Int.toNat ((l2.length : Int) - 0)) (List.drop (Int.toNat 0) l16) = l2)) ∧ ((↑(List.length (List.take
 (Int.toNat ((l2.length : Int) - 0)) (List.drop (Int.toNat 0) l16))) : Int) ≤ 1099511627776 ∧ (l2.length : Int) ≤ 1099511627776) ∧ (true = decide (List.take (Int.toNat ((l2.length : Int) - 0)) (List.drop (Int.toNat 0) l16) = l2) → true =
 true) ∧ (false = decide (List.take (Int.toNat ((l2.length : Int) - 0)) (List.drop (Int.toNat 0) l16) = l2) → false = true)) ∧ (¬(l2.length : Int) ≤ (l16.length : Int) → false = true)) ∧ (false = rdOk l15 l16 true → false = true)) ∧ (false =
 decide ((l15, l16, true) = (l17, l18, false)) → ((l15.length : Int) ≤ 1099511627776 ∧ (l16.length : Int) ≤ 1099511627776 ∧ (l17.length : Int) ≤ 1099511627776 ∧ (l18.length : Int) ≤ 1099511627776) ∧ (true = decide ((l15, l16, true) = (l17,
 l18, false)) → true = true) ∧ (false = decide ((l15, l16, true) = (l17, l18, false)) → false = true))) ∧ (Fed l1 l2 false l14 false l17 l18 false → false = true)) ∧ (Fed l1 l2 false l14 false l15 l16 true → ((l1.length : Int) ≤ 10000000000 ∧
 (l2.length : Int) ≤ 10000000000 ∧ (l14.length : Int) ≤ 10000000000) ∧ ∀ (l19 l20 : List Int), ((Fed l1 l2 false l14 true l19 l20 true → false = true) ∧ (Fed l1 l2 false l14 false l19 l20 true → ((l15.length : Int) ≤ 1099511627776 ∧
 (l16.length : Int) ≤ 1099511627776 ∧ (l19.length : Int) ≤ 1099511627776 ∧ (l20.length : Int) ≤ 1099511627776) ∧ (true = decide ((l15, l16, true) = (l19, l20, true)) → ((l15.length : Int) ≤ 1099511627776 ∧ (l16.length : Int) ≤ 1099511627776 ∧
 (l19.length : Int) ≤ 1099511627776 ∧ (l20.length : Int) ≤ 1099511627776) ∧ (true = decide ((l15, l16, true) = (l19, l20, true)) → true = true) ∧ (false = decide ((l15, l16, true) = (l19, l20, true)) → false = true)) ∧ (false = decide ((l15,
 l16, true) = (l19, l20, true)) → ((l15.length : Int) ≤ 1099511627776 ∧ (l16.length : Int) ≤ 1099511627776 ∧ (l19.length : Int) ≤ 1099511627776 ∧ (l20.length : Int) ≤ 1099511627776) ∧ (true = decide ((l15, l16, true) = (l19, l20, true)) →
 true = true) ∧ (false = decide ((l15, l16, true) = (l19, l20, true)) → false = true)))) ∧ (Fed l1 l2 false l14 true l19 l20 false → false = true) ∧ (Fed l1 l2 false l14 false l19 l20 false → ((l15.length : Int) ≤ 1099511627776 ∧ (l16.length
 : Int) ≤ 1099511627776 ∧ (l19.length : Int) ≤ 1099511627776 ∧ (l20.length : Int) ≤ 1099511627776) ∧ (true = decide ((l15, l16, true) = (l19, l20, false)) → ((l15.length : Int) ≤ 1099511627776 ∧ (l16.length : Int) ≤ 1099511627776 ∧
 (l19.length : Int) ≤ 1099511627776 ∧ (l20.length : Int) ≤ 1099511627776) ∧ (true = decide ((l15, l16, true) = (l19, l20, false)) → true = true) ∧ (false = decide ((l15, l16, true) = (l19, l20, false)) → false = true)) ∧ (false = decide
 ((l15, l16, true) = (l19, l20, false)) → ((l15.length : Int) ≤ 1099511627776 ∧ (l16.length : Int) ≤ 1099511627776 ∧ (l19.length : Int) ≤ 1099511627776 ∧ (l20.length : Int) ≤ 1099511627776) ∧ (true = decide ((l15, l16, true) = (l19, l20,
 false)) → true = true) ∧ (false = decide ((l15, l16, true) = (l19, l20, false)) → false = true))))) ∧ (Fed l1 l2 false l14 true l15 l16 false → ((l1.length : Int) ≤ 10000000000 ∧ (l2.length : Int) ≤ 10000000000 ∧ (l14.length : Int) ≤
 10000000000) ∧ ∀ (l21 l22 : List Int), ((Fed l1 l2 false l14 true l21 l22 true → ((l15.length : Int) ≤ 1099511627776 ∧ (l16.length : Int) ≤ 1099511627776 ∧ (l21.length : Int) ≤ 1099511627776 ∧ (l22.length : Int) ≤ 1099511627776) ∧ (true =
 decide ((l15, l16, false) = (l21, l22, true)) → (∃ (b : Bool), b = rdOk l15 l16 false) ∧ ((l15.length : Int) ≤ 1099511627776 ∧ (l16.length : Int) ≤ 1099511627776) ∧ (true = rdOk l15 l16 false → ((l2.length : Int) ≤ (l16.length : Int) → (0 :
 Int) ≤ 0 ∧ 0 ≤ (l2.length : Int) ∧ (l2.length : Int) ≤ (l16.length : Int) ∧ (∃ (b : Bool), b = decide (List.take (Int.toNat ((l2.length : Int) - 0)) (List.drop (Int.toNat 0) l16) = l2)) ∧ ((↑(List.length (List.take (Int.toNat ((l2.length :
 Int) - 0)) (List.drop (Int.toNat 0) l16))) : Int) ≤ 1099511627776 ∧ (l2.length : Int) ≤ 1099511627776) ∧ (true = decide (List.take (Int.toNat ((l2.length : Int) - 0)) (List.drop (Int.toNat 0) l16) = l2) → true = true) ∧ (false = decide
 (List.take (Int.toNat ((l2.length : Int) - 0)) (List.drop (Int.toNat 0) l16) = l2) → false = true)) ∧ (¬(l2.length : Int) ≤ (l16.length : Int) → false = true)) ∧ (false = rdOk l15 l16 false → false = true)) ∧ (false = decide ((l15, l16,
 false) = (l21, l22, true)) → ((l15.length : Int) ≤ 1099511627776 ∧ (l16.length : Int) ≤ 1099511627776 ∧ (l21.length : Int) ≤ 1099511627776 ∧ (l22.length : Int) ≤ 1099511627776) ∧ (true = decide ((l15, l16, false) = (l21, l22, true)) → true =
 true) ∧ (false = decide ((l15, l16, false) = (l21, l22, true)) → false = true))) ∧ (Fed l1 l2 false l14 false l21 l22 true → false = true)) ∧ (Fed l1 l2 false l14 true l21 l22 false → ((l15.length : Int) ≤ 1099511627776 ∧ (l16.length : Int)
 ≤ 1099511627776 ∧ (l21.length : Int) ≤ 1099511627776 ∧ (l22.length : Int) ≤ 1099511627776) ∧ (true = decide ((l15, l16, false) = (l21, l22, false)) → (∃ (b : Bool), b = rdOk l15 l16 false) ∧ ((l15.length : Int) ≤ 1099511627776 ∧ (l16.length
 : Int) ≤ 1099511627776) ∧ (true = rdOk l15 l16 false → ((l2.length : Int) ≤ (l16.length : Int) → (0 : Int) ≤ 0 ∧ 0 ≤ (l2.length : Int) ∧ (l2.length : Int) ≤ (l16.length : Int) ∧ (∃ (b : Bool), b = decide (List.take (Int.toNat ((l2.length :
 Int) - 0)) (List.drop (Int.toNat 0) l16) = l2)) ∧ ((↑(List.length (List.take (Int.toNat ((l2.length : Int) - 0)) (List.drop (Int.toNat 0) l16))) : Int) ≤ 1099511627776 ∧ (l2.length : Int) ≤ 1099511627776) ∧ (true = decide (List.take
 (Int.toNat ((l2.length : Int) - 0)) (List.drop (Int.toNat 0) l16) = l2) → true = true) ∧ (false = decide (List.take (Int.toNat ((l2.length : Int) - 0)) (List.drop (Int.toNat 0) l16) = l2) → false = true)) ∧ (¬(l2.length : Int) ≤ (l16.length
 : Int) → false = true)) ∧ (false = rdOk l15 l16 false → false = true)) ∧ (false = decide ((l15, l16, false) = (l21, l22, false)) → ((l15.length : Int) ≤ 1099511627776 ∧ (l16.length : Int) ≤ 1099511627776 ∧ (l21.length : Int) ≤ 1099511627776
 ∧ (l22.length : Int) ≤ 1099511627776) ∧ (true = decide ((l15, l16, false) = (l21, l22, false)) → true = true) ∧ (false = decide ((l15, l16, false) = (l21, l22, false)) → false = true))) ∧ (Fed l1 l2 false l14 false l21 l22 false → false =
 true)) ∧ (Fed l1 l2 false l14 false l15 l16 false → ((l1.length : Int) ≤ 10000000000 ∧ (l2.length : Int) ≤ 10000000000 ∧ (l14.length : Int) ≤ 10000000000) ∧ ∀ (l23 l24 : List Int), ((Fed l1 l2 false l14 true l23 l24 true → false = true) ∧
 (Fed l1 l2 false l14 false l23 l24 true → ((l15.length : Int) ≤ 1099511627776 ∧ (l16.length : Int) ≤ 1099511627776 ∧ (l23.length : Int) ≤ 1099511627776 ∧ (l24.length : Int) ≤ 1099511627776) ∧ (true = decide ((l15, l16, false) = (l23, l24,
 true)) → ((l15.length : Int) ≤ 1099511627776 ∧ (l16.length : Int) ≤ 1099511627776 ∧ (l23.length : Int) ≤ 1099511627776 ∧ (l24.length : Int) ≤ 1099511627776) ∧ (true = decide ((l15, l16, false) = (l23, l24, true)) → true = true) ∧ (false =
 decide ((l15, l16, false) = (l23, l24, true)) → false = true)) ∧ (false = decide ((l15, l16, false) = (l23, l24, true)) → ((l15.length : Int) ≤ 1099511627776 ∧ (l16.length : Int) ≤ 1099511627776 ∧ (l23.length : Int) ≤ 1099511627776 ∧
 (l24.length : Int) ≤ 1099511627776) ∧ (true = decide ((l15, l16, false) = (l23, l24, true)) → true = true) ∧ (false = decide ((l15, l16, false) = (l23, l24, true)) → false = true)))) ∧ (Fed l1 l2 false l14 true l23 l24 false → false = true)
 ∧ (Fed l1 l2 false l14 false l23 l24 false → ((l15.length : Int) ≤ 1099511627776 ∧ (l16.length : Int) ≤ 1099511627776 ∧ (l23.length : Int) ≤ 1099511627776 ∧ (l24.length : Int) ≤ 1099511627776) ∧ (true = decide ((l15, l16, false) = (l23, l24,
 false)) → ((l15.length : Int) ≤ 1099511627776 ∧ (l16.length : Int) ≤ 1099511627776 ∧ (l23.length : Int) ≤ 1099511627776 ∧ (l24.length : Int) ≤ 1099511627776) ∧ (true = decide ((l15, l16, false) = (l23, l24, false)) → true = true) ∧ (false =
 decide ((l15, l16, false) = (l23, l24, false)) → false = true)) ∧ (false = decide ((l15, l16, false) = (l23, l24, false)) → ((l15.length : Int) ≤ 1099511627776 ∧ (l16.length : Int) ≤ 1099511627776 ∧ (l23.length : Int) ≤ 1099511627776 ∧
 (l24.length : Int) ≤ 1099511627776) ∧ (true = decide ((l15, l16, false) = (l23, l24, false)) → true = true) ∧ (false = decide ((l15, l16, false) = (l23, l24, false)) → false = true)))))
theorem v_l_FnFeedValid : V_l_FnFeedValid := by
  unfold V_l_FnFeedValid
  intro code hz
  unfold Fed
  refine ⟨fun _ => rfl, fun hc => ⟨by omega, fun w t => ⟨?_, ?_⟩⟩⟩
  · rintro b ⟨hw, ht, hb⟩
    refine ⟨by omega, ?_⟩
    cases hok : (rdOk w t true && allIn 0 255 b) with
    | false =>
      simp only [reduceCtorEq, false_and, true_and, false_implies, implies_true, if_false, if_true, Bool.false_eq_true, Prod.mk.injEq, and_true, and_false, and_imp]
      repeat' (first | apply And.intro | (rintro _ _ rfl rfl) | (rintro _ rfl) | intro _)
      all_goals (first | omega | with_reducible rfl | trivial | contradiction | (simp only [marks_len, marks3_len]; omega) | (rename_i h; simp [marks_len, marks3_len] at h; done) | (rename_i h; simp [marks_len, marks3_len] at h; omega) | (rename_i h _; simp at h; done) | (rename_i h _ _; simp at h; done) | grind)
    | true =>
      obtain ⟨q1, q2⟩ := Bool.and_eq_true_iff.1 hok
      have hk := feedD_ok q1 q2
      skip
      generalize feedD w t true b = R at *
      obtain ⟨x0, y0, z0⟩ := R
      dsimp only at *
      cases z0
      all_goals
        simp only [reduceCtorEq, false_and, true_and, false_implies, implies_true, if_false, if_true, Bool.false_eq_true, Prod.mk.injEq, and_true, and_false, and_imp]
        obtain ⟨k1, ⟨s, k2⟩, k3⟩ := hk
        subst k2
        have k4 : (t ++ s).take t.length = t := by simp
        have k5 : ((t ++ s).length : Int) = t.length + s.length := by simp
        repeat' (first | apply And.intro | (rintro _ _ rfl rfl) | (rintro _ rfl) | intro _)
        all_goals (first | omega | with_reducible rfl | trivial | contradiction | (simp only [marks_len, marks3_len]; omega) | (rename_i h; simp [marks_len, marks3_len] at h; done) | (rename_i h; simp [marks_len, marks3_len] at h; omega) | (rename_i h _; simp at h; done) | (rename_i h _ _; simp at h; done) | grind)
  · rintro b ⟨hw, ht, hb⟩
    refine ⟨by omega, ?_⟩
    cases hok : (rdOk w t false && allIn 0 255 b) with
    | false =>
      simp only [reduceCtorEq, false_and, true_and, false_implies, implies_true, if_false, if_true, Bool.false_eq_true, Prod.mk.injEq, and_true, and_false, and_imp]
      repeat' (first | apply And.intro | (rintro _ _ rfl rfl) | (rintro _ rfl) | intro _)
      all_goals (first | omega | with_reducible rfl | trivial | contradiction | (simp only [marks_len, marks3_len]; omega) | (rename_i h; simp [marks_len, marks3_len] at h; done) | (rename_i h; simp [marks_len, marks3_len] at h; omega) | (rename_i h _; simp at h; done) | (rename_i h _ _; simp at h; done) | grind)
    | true =>
      obtain ⟨q1, q2⟩ := Bool.and_eq_true_iff.1 hok
      have hk := feedD_ok q1 q2
      skip
      generalize feedD w t false b = R at *
      obtain ⟨x0, y0, z0⟩ := R
      dsimp only at *
      cases z0
      all_goals
        simp only [reduceCtorEq, false_and, true_and, false_implies, implies_true, if_false, if_true, Bool.false_eq_true, Prod.mk.injEq, and_true, and_false, and_imp]
        obtain ⟨k1, ⟨s, k2⟩, k3⟩ := hk
        subst k2
        have k4 : (t ++ s).take t.length = t := by simp
        have k5 : ((t ++ s).length : Int) = t.length + s.length := by simp
        repeat' (first | apply And.intro | (rintro _ _ rfl rfl) | (rintro _ rfl) | intro _)
        all_goals (first | omega | with_reducible rfl | trivial | contradiction | (simp only [marks_len, marks3_len]; omega) | (rename_i h; simp [marks_len, marks3_len] at h; done) | (rename_i h; simp [marks_len, marks3_len] at h; omega) | (rename_i h _; simp at h; done) | (rename_i h _ _; simp at h; done) | grind)
def S_l_FnFeedValid : FSpec where
  args := [.sc (.sl .u8)]
  outs := [.sc .bool]
  pre := fun a => match a with
    | [.sc (.sl .u8 code)] => (((code).length : Nat) : Int) ≤ 9223372036854775807
    | _ => False
  post := fun a r => match a, r with
    | [.sc (.sl .u8 code)], [.sc (.bool r)] => r = true
    | _, _ => False
  kept := false
theorem m_l_FnFeedValid : Meets Try.prog 10 S_l_FnFeedValid :=
  meets tok mixed Try.func10 (by kernel_rfl) (l := [(12, S_s_StreamFeed), (15, S_i_StreamFeed), (22, S_i_StreamValid), (28, S_s_DrawStreamFeed), (29, S_l_sameStream), (30, S_l_sameInts)]) ⟨m_s_StreamFeed, m_i_StreamFeed, m_i_StreamValid, m_s_DrawStreamFeed, m_l_sameStream, m_l_sameInts, trivial⟩ (ann := []) v_l_FnFeedValid (by kernel_rfl)
theorem a_l_FnFeedValid : LawOf Try.prog Try.f10.params.toList S_l_FnFeedValid where
  args := by kernel_rfl
  outs := rfl
  pre := AKs.all_iff.1 (show AKs.all S_l_FnFeedValid.args (fun ds => bnds ds → S_l_FnFeedValid.pre ds) from fun x0 h => h.1)
  post := AKs.all_iff.1 (show AKs.all S_l_FnFeedValid.args (fun ds => ∀ b, S_l_FnFeedValid.post ds [.sc (.bool b)] → b = true) from fun x0 _ h => h)
set_option maxRecDepth 100000 in
theorem lifted_l_FnFeedValid (os : Os) (started : os.Started) (H : Type) (enc : TypeId × Value → H) :
    ReturnsInHanded {} Try.checked os 10 .any (Rows.fnFeedValidSpec.pre6 enc Try.prog Try.f10 Rows.fnFeedValidRow.domain false) (Rows.fnFeedValidSpec.post enc Try.prog Try.f10 false true false false) :=
  law_lifted (C := Try.checked) (F := S_l_FnFeedValid) (by kernel_rfl) started (by kernel_rfl) Try.func10
    (ChangeSpec.witness6 (enc := enc) (C := Try.checked) false ⟨#[], #[.slice none 0 0], []⟩ 8 (by kernel_rfl) (by kernel_rfl) (by kernel_rfl) (by kernel_rfl))
    m_l_FnFeedValid a_l_FnFeedValid (by kernel_rfl) (of_decide_eq_true (by kernel_rfl)) rfl (fun ds h => by match ds, h with | [d0], _ => rfl) (by kernel_rfl) Try.underlying4
theorem facts_FnFeedValid : ∀ P : Program, P = Try.prog → P.initOrder.toList = ioNums.map Char.ofNat → joinedFacts P 10 Try.f10 Rows.fnFeedValidSpec Rows.fnFeedValidRow = true := by
  intro P hP h
  have h1 := io1 P hP h
  have h2 := io2 P hP h
  have h3 := io3 P hP h
  unfold joinedFacts
  rw [h1, h2, h3]
  subst hP
  show (_ : Bool) = true
  kernel_rfl
theorem proved_FnFeedValid : Rows.FnFeedValidSaid :=
  OpenClaim.holds_of_wide 10 Try.f10 rfl rfl rfl rfl rfl rfl rfl ⟨rfl, rfl, rfl, rfl, rfl⟩ rfl rfl rfl rfl rfl (by kernel_rfl) Try.func10 (facts_FnFeedValid _ rfl ioL)
    (of_decide_eq_true (by kernel_rfl)) (by unfold Func.isWrapper; first | (rw [if_pos (by decide +kernel)]; kernel_rfl) | (rw [if_neg (by decide +kernel)]; exact ⟨rfl, rfl⟩))
    (fun os started H enc _ => lifted_l_FnFeedValid os started H enc)
end Go.Proofs.Ytgimfahkojmplaa
