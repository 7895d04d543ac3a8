/-
  FnFeedNone: for every input the law returns true, and each argument reads afterwards as it read before. No conditions.
-/
import Derived.Test.YtgimfahkojmplaaRows
import Derived.Test.YtgimfahkojmplaaT
import Derived.Test.YtgimfahkojmplaaSa
import Derived.Test.YtgimfahkojmplaaSb
import Derived.Test.YtgimfahkojmplaaSf
import Derived.Test.YtgimfahkojmplaaSg
import Derived.Test.YtgimfahkojmplaaSj
import Derived.Test.YtgimfahkojmplaaSk
import Derived.Test.YtgimfahkojmplaaSl
import Derived.Test.YtgimfahkojmplaaSm
import Derived.Test.YtgimfahkojmplaaSn
import Derived.Test.YtgimfahkojmplaaSo
import Derived.Test.YtgimfahkojmplaaSp
import Derived.Test.YtgimfahkojmplaaSr
import Derived.Test.YtgimfahkojmplaaSs
import Derived.Test.YtgimfahkojmplaaSt
set_option linter.unusedVariables false
set_option linter.unusedSimpArgs false
open Go Go.Ax Go.Mx Go.ChangeShapes Go.WideShapes Go.RowKit Go.ChangeAt
namespace Go.Proofs.Ytgimfahkojmplaa
def V_l_FnFeedNone : Prop :=
  ∀ (l0 : List UInt8), (l0.length : Int) ≤ (9223372036854775807 : Int) → (1048576 < (l0.length : Int) → true = true) ∧ (¬1048576 < (l0.length : Int) → (l0.length : Int) ≤ 1099511627776 ∧ ∀ (l1 l2 : List Int), (∀ (l3 : List Int), (l1.length :
 Int) ≤ 6000 ∧ (l2.length : Int) ≤ 200 ∧ (l3.length : Int) ≤ 6000 → ((l1.length : Int) ≤ 10000000000 ∧ (l2.length : Int) ≤ 10000000000 ∧ (l3.length : Int) ≤ 10000000000) ∧ ∀ (l4 l5 : List Int), ((Fed l1 l2 true l3 true l4 l5 true →
 ((l1.length : Int) ≤ 10000000000 ∧ (l2.length : Int) ≤ 10000000000 ∧ (l3.length : Int) ≤ 10000000000) ∧ ∀ (l6 l7 : List Int), ((Fed l1 l2 true l3 true l6 l7 true → ((l4.length : Int) ≤ 1099511627776 ∧ (l5.length : Int) ≤ 1099511627776 ∧
 (l6.length : Int) ≤ 1099511627776 ∧ (l7.length : Int) ≤ 1099511627776) ∧ (true = decide ((l4, l5, true) = (l6, l7, true)) → ((l4.length : Int) ≤ 10000000000 ∧ (l5.length : Int) ≤ 10000000000 ∧ (↑0 : Int) ≤ 10000000000) ∧ ∀ (l8 l9 : List
 Int), ((Fed l4 l5 true [] true l8 l9 true → ((l8.length : Int) ≤ 1099511627776 ∧ (l9.length : Int) ≤ 1099511627776 ∧ (l4.length : Int) ≤ 1099511627776 ∧ (l5.length : Int) ≤ 1099511627776) ∧ (true = decide ((l8, l9, true) = (l4, l5, true)) →
 true = true) ∧ (false = decide ((l8, l9, true) = (l4, l5, true)) → false = true)) ∧ (Fed l4 l5 true [] false l8 l9 true → false = true)) ∧ (Fed l4 l5 true [] true l8 l9 false → ((l8.length : Int) ≤ 1099511627776 ∧ (l9.length : Int) ≤
 1099511627776 ∧ (l4.length : Int) ≤ 1099511627776 ∧ (l5.length : Int) ≤ 1099511627776) ∧ (true = decide ((l8, l9, false) = (l4, l5, true)) → true = true) ∧ (false = decide ((l8, l9, false) = (l4, l5, true)) → false = true)) ∧ (Fed l4 l5 true
 [] false l8 l9 false → false = true)) ∧ (false = decide ((l4, l5, true) = (l6, l7, true)) → ((l4.length : Int) ≤ 1099511627776 ∧ (l5.length : Int) ≤ 1099511627776 ∧ (l6.length : Int) ≤ 1099511627776 ∧ (l7.length : Int) ≤ 1099511627776) ∧
 (true = decide ((l4, l5, true) = (l6, l7, true)) → true = true) ∧ (false = decide ((l4, l5, true) = (l6, l7, true)) → false = true))) ∧ (Fed l1 l2 true l3 false l6 l7 true → false = true)) ∧ (Fed l1 l2 true l3 true l6 l7 false → ((l4.length
 : Int) ≤ 1099511627776 ∧ (l5.length : Int) ≤ 1099511627776 ∧ (l6.length : Int) ≤ 1099511627776 ∧ (l7.length : Int) ≤ 1099511627776) ∧ (true = decide ((l4, l5, true) = (l6, l7, false)) → ((l4.length : Int) ≤ 10000000000 ∧ (l5.length : Int) ≤
 10000000000 ∧ (↑0 : Int) ≤ 10000000000) ∧ ∀ (l10 l11 : List Int), ((Fed l4 l5 true [] true l10 l11 true → ((l10.length : Int) ≤ 1099511627776 ∧ (l11.length : Int) ≤ 1099511627776 ∧ (l4.length : Int) ≤ 1099511627776 ∧ (l5.length : Int) ≤
 1099511627776) ∧ (true = decide ((l10, l11, true) = (l4, l5, true)) → true = true) ∧ (false = decide ((l10, l11, true) = (l4, l5, true)) → false = true)) ∧ (Fed l4 l5 true [] false l10 l11 true → false = true)) ∧ (Fed l4 l5 true [] true l10
 l11 false → ((l10.length : Int) ≤ 1099511627776 ∧ (l11.length : Int) ≤ 1099511627776 ∧ (l4.length : Int) ≤ 1099511627776 ∧ (l5.length : Int) ≤ 1099511627776) ∧ (true = decide ((l10, l11, false) = (l4, l5, true)) → true = true) ∧ (false =
 decide ((l10, l11, false) = (l4, l5, true)) → false = true)) ∧ (Fed l4 l5 true [] false l10 l11 false → false = true)) ∧ (false = decide ((l4, l5, true) = (l6, l7, false)) → ((l4.length : Int) ≤ 1099511627776 ∧ (l5.length : Int) ≤
 1099511627776 ∧ (l6.length : Int) ≤ 1099511627776 ∧ (l7.length : Int) ≤ 1099511627776) ∧ (true = decide ((l4, l5, true) = (l6, l7, false)) → true = true) ∧ (false = decide ((l4, l5, true) = (l6, l7, false)) → false = true))) ∧ (Fed l1 l2
 true l3 false l6 l7 false → false = true)) ∧ (Fed l1 l2 true l3 false l4 l5 true → ((l1.length : Int) ≤ 10000000000 ∧ (l2.length : Int) ≤ 10000000000 ∧ (l3.length : Int) ≤ 10000000000) ∧ ∀ (l12 l13 : List Int), ((Fed l1 l2 true l3 true l12
 l13 true → false = true) ∧ (Fed l1 l2 true l3 false l12 l13 true → ((l4.length : Int) ≤ 1099511627776 ∧ (l5.length : Int) ≤ 1099511627776 ∧ (l12.length : Int) ≤ 1099511627776 ∧ (l13.length : Int) ≤ 1099511627776) ∧ (true = decide ((l4, l5,
 true) = (l12, l13, true)) → ((l4.length : Int) ≤ 1099511627776 ∧ (l5.length : Int) ≤ 1099511627776 ∧ (l12.length : Int) ≤ 1099511627776 ∧ (l13.length : Int) ≤ 1099511627776) ∧ (true = decide ((l4, l5, true) = (l12, l13, true)) → true = true)
 ∧ (false = decide ((l4, l5, true) = (l12, l13, true)) → false = true)) ∧ (false = decide ((l4, l5, true) = (l12, l13, true)) → ((l4.length : Int) ≤ 1099511627776 ∧ (l5.length : Int) ≤ 1099511627776 ∧ (l12.length : Int) ≤ 1099511627776 ∧
 (l13.length : Int) ≤ 1099511627776) ∧ (true = decide ((l4, l5, true) = (l12, l13, true)) → true = true) ∧ (false = decide ((l4, l5, true) = (l12, l13, true)) → false = true)))) ∧ (Fed l1 l2 true l3 true l12 l13 false → false = true) ∧ (Fed
 l1 l2 true l3 false l12 l13 false → ((l4.length : Int) ≤ 1099511627776 ∧ (l5.length : Int) ≤ 1099511627776 ∧ (l12.length : Int) ≤ 1099511627776 ∧ (l13.length : Int) ≤ 1099511627776) ∧ (true = decide ((l4, l5, true) = (l12, l13, false)) →
 ((l4.length : Int) ≤ 1099511627776 ∧ (l5.length : Int) ≤ 1099511627776 ∧ (l12.length : Int) ≤ 1099511627776 ∧ (l13.length : Int) ≤ 1099511627776) ∧ (true = decide ((l4, l5, true) = (l12, l13, false)) → true = true) ∧ (false = decide ((l4,
 l5, true) = (l12, l13, false)) → false = true)) ∧ (false = decide ((l4, l5, true) = (l12, l13, false)) → ((l4.length : Int) ≤ 1099511627776 ∧ (l5.length : Int) ≤ 1099511627776 ∧ (l12.length : Int) ≤ 1099511627776 ∧ (l13.length : Int) ≤
 1099511627776) ∧ (true = decide ((l4, l5, true) = (l12, l13, false)) → true = true) ∧ (false = decide ((l4, l5, true) = (l12, l13, false)) → false = true))))) ∧ (Fed l1 l2 true l3 true l4 l5 false → ((l1.length : Int) ≤ 10000000000 ∧
 (l2.length : Int) ≤ 10000000000 ∧ (l3.length : Int) ≤ 10000000000) ∧ ∀ (l14 l15 : List Int), ((Fed l1 l2 true l3 true l14 l15 true → ((l4.length : Int) ≤ 1099511627776 ∧ (l5.length : Int) ≤ 1099511627776 ∧ (l14.length : Int) ≤ 1099511627776
 ∧ (l15.length : Int) ≤ 1099511627776) ∧ (true = decide ((l4, l5, false) = (l14, l15, true)) → ((l4.length : Int) ≤ 10000000000 ∧ (l5.length : Int) ≤ 10000000000 ∧ (↑0 : Int) ≤ 10000000000) ∧ ∀ (l16 l17 : List Int), ((Fed l4 l5 false [] true
 l16 l17 true → ((l16.length : Int) ≤ 1099511627776 ∧ (l17.length : Int) ≤ 1099511627776 ∧ (l4.length : Int) ≤ 1099511627776 ∧ (l5.length : Int) ≤ 1099511627776) ∧ (true = decide ((l16, l17, true) = (l4, l5, false)) → true = true) ∧ (false =
 decide ((l16, l17, true) = (l4, l5, false)) → false = true)) ∧ (Fed l4 l5 false [] false l16 l17 true → false = true)) ∧ (Fed l4 l5 false [] true l16 l17 false → ((l16.length : Int) ≤ 1099511627776 ∧ (l17.length : Int) ≤ 1099511627776 ∧
 (l4.length : Int) ≤ 1099511627776 ∧ (l5.length : Int) ≤ 1099511627776) ∧ (true = decide ((l16, l17, false) = (l4, l5, false)) → true = true) ∧ (false = decide ((l16, l17, false) = (l4, l5, false)) → false = true)) ∧ (Fed l4 l5 false [] false
 l16 l17 false → false = true)) ∧ (false = decide ((l4, l5, false) = (l14, l15, true)) → ((l4.length : Int) ≤ 1099511627776 ∧ (l5.length : Int) ≤ 1099511627776 ∧ (l14.length : Int) ≤ 1099511627776 ∧ (l15.length : Int) ≤ 1099511627776) ∧ (true
 = decide ((l4, l5, false) = (l14, l15, true)) → true = true) ∧ (false = decide ((l4, l5, false) = (l14, l15, true)) → false = true))) ∧ (Fed l1 l2 true l3 false l14 l15 true → false = true)) ∧ (Fed l1 l2 true l3 true l14 l15 false →
 ((l4.length : Int) ≤ 1099511627776 ∧ (l5.length : Int) ≤ 1099511627776 ∧ (l14.length : Int) ≤ 1099511627776 ∧ (l15.length : Int) ≤ 1099511627776) ∧ (true = decide ((l4, l5, false) = (l14, l15, false)) → ((l4.length : Int) ≤ 10000000000 ∧
 (l5.length : Int) ≤ 10000000000 ∧ (↑0 : Int) ≤ 10000000000) ∧ ∀ (l18 l19 : List Int), ((Fed l4 l5 false [] true l18 l19 true → ((l18.length : Int) ≤ 1099511627776 ∧ (l19.length : Int) ≤ 1099511627776 ∧ (l4.length : Int) ≤ 1099511627776 ∧
 (l5.length : Int) ≤ 1099511627776) ∧ (true = decide ((l18, l19, true) = (l4, l5, false)) → true = true) ∧ (false = decide ((l18, l19, true) = (l4, l5, false)) → false = true)) ∧ (Fed l4 l5 false [] false l18 l19 true → false = true)) ∧ (Fed
 l4 l5 false [] true l18 l19 false → ((l18.length : Int) ≤ 1099511627776 ∧ (l19.length : Int) ≤ 1099511627776 ∧ (l4.length : Int) ≤ 1099511627776 ∧ (l5.length : Int) ≤ 1099511627776) ∧ (true = decide ((l18, l19, false) = (l4, l5, false)) →
 true = true) ∧ (false = decide ((l18, l19, false) = (l4, l5, false)) → false = true)) ∧ (Fed l4 l5 false [] false l18 l19 false → false = true)) ∧ (false = decide ((l4, l5, false) = (l14, l15, false)) → ((l4.length : Int) ≤ 1099511627776 ∧
 (l5.length : Int) ≤ 1099511627776 ∧ (l14.length : Int) ≤ 1099511627776 ∧ (l15.length : Int) ≤ 1099511627776) ∧ (true = decide ((l4, l5, false) = (l14, l15, false)) → true = true) ∧ (false = decide ((l4, l5, false) = (l14, l15, false)) →
 false = true))) ∧ (Fed l1 l2 true l3 false l14 l15 false → false = true)) ∧ (Fed l1 l2 true l3 false l4 l5 false → ((l1.length : Int) ≤ 10000000000 ∧ (l2.length : Int) ≤ 10000000000 ∧ (l3.length : Int) ≤ 10000000000) ∧ ∀ (l20 l21 : List
 Int), ((Fed l1 l2 true l3 true l20 l21 true → false = true) ∧ (Fed l1 l2 true l3 false l20 l21 true → ((l4.length : Int) ≤ 1099511627776 ∧ (l5.length : Int) ≤ 1099511627776 ∧ (l20.length : Int) ≤ 1099511627776 ∧ (l21.length : Int) ≤
 1099511627776) ∧ (true = decide ((l4, l5, false) = (l20, l21, true)) → ((l4.length : Int) ≤ 1099511627776 ∧ (l5.length : Int) ≤ 1099511627776 ∧ (l20.length : Int) ≤ 1099511627776 ∧ (l21.length : Int) ≤ 1099511627776) ∧ (true = decide ((l4,
 l5, false) = (l20, l21, true)) → true = true) ∧ (false = decide ((l4, l5, false) = (l20, l21, true)) → false = true)) ∧ (false = decide ((l4, l5, false) = (l20, l21, true)) → ((l4.length : Int) ≤ 1099511627776 ∧ (l5.length : Int) ≤
 1099511627776 ∧ (l20.length : Int) ≤ 1099511627776 ∧ (l21.length : Int) ≤ 1099511627776) ∧ (true = decide ((l4, l5, false) = (l20, l21, true)) → true = true) ∧ (false = decide ((l4, l5, false) = (l20, l21, true)) → false = true)))) ∧ (Fed l1
 l2 true l3 true l20 l21 false → false = true) ∧ (Fed l1 l2 true l3 false l20 l21 false → ((l4.length : Int) ≤ 1099511627776 ∧ (l5.length : Int) ≤ 1099511627776 ∧ (l20.length : Int) ≤ 1099511627776 ∧ (l21.length : Int) ≤ 1099511627776) ∧
 (true = decide ((l4, l5, false) = (l20, l21, false)) → ((l4.length : Int) ≤ 1099511627776 ∧ (l5.length : Int) ≤ 1099511627776 ∧ (l20.length : Int) ≤ 1099511627776 ∧ (l21.length : Int) ≤ 1099511627776) ∧ (true = decide ((l4, l5, false) =
 (l20, l21, false)) → true = true) ∧ (false = decide ((l4, l5, false) = (l20, l21, false)) → false = true)) ∧ (false = decide ((l4, l5, false) = (l20, l21, false)) → ((l4.length : Int) ≤ 1099511627776 ∧ (l5.length : Int) ≤ 1099511627776 ∧
 (l20.length : Int) ≤ 1099511627776 ∧ (l21.length : Int) ≤ 1099511627776) ∧ (true = decide ((l4, l5, false) = (l20, l21, false)) → true = true) ∧ (false = decide ((l4, l5, false) = (l20, l21, false)) → false = true))))) ∧ ∀ (l22 : List Int),
 (l1.length : Int) ≤ 6000 ∧ (l2.length : Int) ≤ 200 ∧ (l22.length : Int) ≤ 6000 → ((l1.length : Int) ≤ 10000000000 ∧ (l2.length : Int) ≤ 10000000000 ∧ (l22.length : Int) ≤ 10000000000) ∧ ∀ (l23 l24 : List Int), ((Fed l1 l2 false l22 true l23
 l24 true → ((l1.length : Int) ≤ 10000000000 ∧ (l2.length : Int) ≤ 10000000000 ∧ (l22.length : Int) ≤ 10000000000) ∧ ∀ (l25 l26 : List Int), ((Fed l1 l2 false l22 true l25 l26 true → ((l23.length : Int) ≤ 1099511627776 ∧ (l24.length : Int) ≤
 1099511627776 ∧ (l25.length : Int) ≤ 1099511627776 ∧ (l26.length : Int) ≤ 1099511627776) ∧ (true = decide ((l23, l24, true) = (l25, l26, true)) → ((l23.length : Int) ≤ 10000000000 ∧ (l24.length : Int) ≤ 10000000000 ∧ (↑0 : Int) ≤
 10000000000) ∧ ∀ (l27 l28 : List Int), ((Fed l23 l24 true [] true l27 l28 true → ((l27.length : Int) ≤ 1099511627776 ∧ (l28.length : Int) ≤ 1099511627776 ∧ (l23.length : Int) ≤ 1099511627776 ∧ (l24.length : Int) ≤ 1099511627776) ∧ (true =
 decide ((l27, l28, true) = (l23, l24, true)) → true = true) ∧ (false = decide ((l27, l28, true) = (l23, l24, true)) → false = true)) ∧ (Fed l23 l24 true [] false l27 l28 true → false = true)) ∧ (Fed l23 l24 true [] true l27 l28 false →
 ((l27.length : Int) ≤ 1099511627776 ∧ (l28.length : Int) ≤ 1099511627776 ∧ (l23.length : Int) ≤ 1099511627776 ∧ (l24.length : Int) ≤ 1099511627776) ∧ (true = decide ((l27, l28, false) = (l23, l24, true)) → true = true) ∧ (false = decide
 ((l27, l28, false) = (l23, l24, true)) → false = true)) ∧ (Fed l23 l24 true [] false l27 l28 false → false = true)) ∧ (false = decide ((l23, l24, true) = (l25, l26, true)) → ((l23.length : Int) ≤ 1099511627776 ∧ (l24.length : Int) ≤
 1099511627776 ∧ (l25.length : Int) ≤ 1099511627776 ∧ (l26.length : Int) ≤ 1099511627776) ∧ (true = decide ((l23, l24, true) = (l25, l26, true)) → true = true) ∧ (false = decide ((l23, l24, true) = (l25, l26, true)) → false = true))) ∧ (Fed
 l1 l2 false l22 false l25 l26 true → false = true)) ∧ (Fed l1 l2 false l22 true l25 l26 false → ((l23.length : Int) ≤ 1099511627776 ∧ (l24.length : Int) ≤ 1099511627776 ∧ (l25.length : Int) ≤ 1099511627776 ∧ (l26.length : Int) ≤
 1099511627776) ∧ (true = decide ((l23, l24, true) = (l25, l26, false)) → ((l23.length : Int) ≤ 10000000000 ∧ (l24.length : Int) ≤ 10000000000 ∧ (↑0 : Int) ≤ 10000000000) ∧ ∀ (l29 l30 : List Int), ((Fed l23 l24 true [] true l29 l30 true →
 ((l29.length : Int) ≤ 1099511627776 ∧ (l30.length : Int) ≤ 1099511627776 ∧ (l23.length : Int) ≤ 1099511627776 ∧ (l24.length : Int) ≤ 1099511627776) ∧ (true = decide ((l29, l30, true) = (l23, l24, true)) → true = true) ∧ (false = decide
 ((l29, l30, true) = (l23, l24, true)) → false = true)) ∧ (Fed l23 l24 true [] false l29 l30 true → false = true)) ∧ (Fed l23 l24 true [] true l29 l30 false → ((l29.length : Int) ≤ 1099511627776 ∧ (l30.length : Int) ≤ 1099511627776 ∧
 (l23.length : Int) ≤ 1099511627776 ∧ (l24.length : Int) ≤ 1099511627776) ∧ (true = decide ((l29, l30, false) = (l23, l24, true)) → true = true) ∧ (false = decide ((l29, l30, false) = (l23, l24, true)) → false = true)) ∧ (Fed l23 l24 true []
 false l29 l30 false → false = true)) ∧ (false = decide ((l23, l24, true) = (l25, l26, false)) → ((l23.length : Int) ≤ 1099511627776 ∧ (l24.length : Int) ≤ 1099511627776 ∧ (l25.length : Int) ≤ 1099511627776 ∧ (l26.length : Int) ≤
 1099511627776) ∧ (true = decide ((l23, l24, true) = (l25, l26, false)) → true = true) ∧ (false = decide ((l23, l24, true) = (l25, l26, false)) → false = true))) ∧ (Fed l1 l2 false l22 false l25 l26 false → false = true)) ∧ (Fed l1 l2 false
 l22 false l23 l24 true → ((l1.length : Int) ≤ 10000000000 ∧ (l2.length : Int) ≤ 10000000000 ∧ (l22.length : Int) ≤ 10000000000) ∧ ∀ (l31 l32 : List Int), ((Fed l1 l2 false l22 true l31 l32 true → false = true) ∧ (Fed l1 l2 false l22 false
 l31 l32 true → ((l23.length : Int) ≤ 1099511627776 ∧ (l24.length : Int) ≤ 1099511627776 ∧ (l31.length : Int) ≤ 1099511627776 ∧ (l32.length : Int) ≤ 1099511627776) ∧ (true = decide ((l23, l24, true) = (l31, l32, true)) → ((l23.length : Int) ≤
 1099511627776 ∧ (l24.length : Int) ≤ 1099511627776 ∧ (l31.length : Int) ≤ 1099511627776 ∧ (l32.length : Int) ≤ 1099511627776) ∧ (true = decide ((l23, l24, true) = (l31, l32, true)) → true = true) ∧ (false = decide ((l23, l24, true) = (l31,
 l32, true)) → false = true)) ∧ (false = decide ((l23, l24, true) = (l31, l32, true)) → ((l23.length : Int) ≤ 1099511627776 ∧ (l24.length : Int) ≤ 1099511627776 ∧ (l31.length : Int) ≤ 1099511627776 ∧ (l32.length : Int) ≤ 1099511627776) ∧
 (true = decide ((l23, l24, true) = (l31, l32, true)) → true = true) ∧ (false = decide ((l23, l24, true) = (l31, l32, true)) → false = true)))) ∧ (Fed l1 l2 false l22 true l31 l32 false → false = true) ∧ (Fed l1 l2 false l22 false l31 l32
 false → ((l23.length : Int) ≤ 1099511627776 ∧ (l24.length : Int) ≤ 1099511627776 ∧ (l31.length : Int) ≤ 1099511627776 ∧ (l32.length : Int) ≤ 1099511627776) ∧ (true = decide ((l23, l24, true) = (l31, l32, false)) → ((l23.length : Int) ≤
 1099511627776 ∧ (l24.length : Int) ≤ 1099511627776 ∧ (l31.length : Int) ≤ 1099511627776 ∧ (l32.length : Int) ≤ 1099511627776) ∧ (true = decide ((l23, l24, true) = (l31, l32, false)) → true = true) ∧ (false = decide ((l23, l24, true) = (l31,
 l32, false)) → false = true)) ∧ (false = decide ((l23, l24, true) = (l31, l32, false)) → ((l23.length : Int) ≤ 1099511627776 ∧ (l24.length : Int) ≤ 1099511627776 ∧ (l31.length : Int) ≤ 1099511627776 ∧ (l32.length : Int) ≤ 1099511627776) ∧
 (true = decide ((l23, l24, true) = (l31, l32, false)) → true = true) ∧ (false = decide ((l23, l24, true) = (l31, l32, false)) → false = true))))) ∧ (Fed l1 l2 false l22 true l23 l24 false → ((l1.length : Int) ≤ 10000000000 ∧ (l2.length :
 Int) ≤ 10000000000 ∧ (l22.length : Int) ≤ 10000000000) ∧ ∀ (l33 l34 : List Int), ((Fed l1 l2 false l22 true l33 l34 true → ((l23.length : Int) ≤ 1099511627776 ∧ (l24.length : Int) ≤ 1099511627776 ∧ (l33.length : Int) ≤ 1099511627776 ∧
 (l34.length : Int) ≤ 1099511627776) ∧ (true = decide ((l23, l24, false) = (l33, l34, true)) → ((l23.length : Int) ≤ 10000000000 ∧ (l24.length : Int) ≤ 10000000000 ∧ (↑0 : Int) ≤ 10000000000) ∧ ∀ (l35 l36 : List Int), ((Fed l23 l24 false []
 true l35 l36 true → ((l35.length : Int) ≤ 1099511627776 ∧ (l36.length : Int) ≤ 1099511627776 ∧ (l23.length : Int) ≤ 1099511627776 ∧ (l24.length : Int) ≤ 1099511627776) ∧ (true = decide ((l35, l36, true) = (l23, l24, false)) → true = true) ∧
 (false = decide ((l35, l36, true) = (l23, l24, false)) → false = true)) ∧ (Fed l23 l24 false [] false l35 l36 true → false = true)) ∧ (Fed l23 l24 false [] true l35 l36 false → ((l35.length : Int) ≤ 1099511627776 ∧ (l36.length : Int) ≤
 1099511627776 ∧ (l23.length : Int) ≤ 1099511627776 ∧ (l24.length : Int) ≤ 1099511627776) ∧ (true = decide ((l35, l36, false) = (l23, l24, false)) → true = true) ∧ (false = decide ((l35, l36, false) = (l23, l24, false)) → false = true)) ∧
 (Fed l23 l24 false [] false l35 l36 false → false = true)) ∧ (false = decide ((l23, l24, false) = (l33, l34, true)) → ((l23.length : Int) ≤ 1099511627776 ∧ (l24.length : Int) ≤ 1099511627776 ∧ (l33.length : Int) ≤ 1099511627776 ∧ (l34.length
 : Int) ≤ 1099511627776) ∧ (true = decide ((l23, l24, false) = (l33, l34, true)) → true = true) ∧ (false = decide ((l23, l24, false) = (l33, l34, true)) → false = true))) ∧ (Fed l1 l2 false l22 false l33 l34 true → false = true)) ∧ (Fed l1 l2
 false l22 true l33 l34 false → ((l23.length : Int) ≤ 1099511627776 ∧ (l24.length : Int) ≤ 1099511627776 ∧ (l33.length : Int) ≤ 1099511627776 ∧ (l34.length : Int) ≤ 1099511627776) ∧ (true = decide ((l23, l24, false) = (l33, l34, false)) →
 ((l23.length : Int) ≤ 10000000000 ∧ (l24.length : Int) ≤ 10000000000 ∧ (↑0 : Int) ≤ 10000000000) ∧ ∀ (l37 l38 : List Int), ((Fed l23 l24 false [] true l37 l38 true → ((l37.length : Int) ≤ 1099511627776 ∧ (l38.length : Int) ≤ 1099511627776 ∧
 (l23.length : Int) ≤ 1099511627776 ∧ (l24.length : Int) ≤ 1099511627776) ∧ (true = decide ((l37, l38, true) = (l23, l24, false)) → true = true) ∧ (false = decide ((l37, l38, true) = (l23, l24, false)) → false = true)) ∧ (Fed l23 l24 false []
 false l37 l38 true → false = true)) ∧ (Fed l23 l24 false [] true l37 l38 false → ((l37.length : Int) ≤ 1099511627776 ∧ (l38.length : Int) ≤ 1099511627776 ∧ (l23.length : Int) ≤ 1099511627776 ∧ (l24.length : Int) ≤ 1099511627776) ∧ (true =
 decide ((l37, l38, false) = (l23, l24, false)) → true = true) ∧ (false = decide ((l37, l38, false) = (l23, l24, false)) → false = true)) ∧ (Fed l23 l24 false [] false l37 l38 false → false = true)) ∧ (false = decide ((l23, l24, false) =
 (l33, l34, false)) → ((l23.length : Int) ≤ 1099511627776 ∧ (l24.length : Int) ≤ 1099511627776 ∧ (l33.length : Int) ≤ 1099511627776 ∧ (l34.length : Int) ≤ 1099511627776) ∧ (true = decide ((l23, l24, false) = (l33, l34, false)) → true = true)
 ∧ (false = decide ((l23, l24, false) = (l33, l34, false)) → false = true))) ∧ (Fed l1 l2 false l22 false l33 l34 false → false = true)) ∧ (Fed l1 l2 false l22 false l23 l24 false → ((l1.length : Int) ≤ 10000000000 ∧ (l2.length : Int) ≤
 10000000000 ∧ (l22.length : Int) ≤ 10000000000) ∧ ∀ (l39 l40 : List Int), ((Fed l1 l2 false l22 true l39 l40 true → false = true) ∧ (Fed l1 l2 false l22 false l39 l40 true → ((l23.length : Int) ≤ 1099511627776 ∧ (l24.length : Int) ≤
 1099511627776 ∧ (l39.length : Int) ≤ 1099511627776 ∧ (l40.length : Int) ≤ 1099511627776) ∧ (true = decide ((l23, l24, false) = (l39, l40, true)) → ((l23.length : Int) ≤ 1099511627776 ∧ (l24.length : Int) ≤ 1099511627776 ∧ (l39.length : Int)
 ≤ 1099511627776 ∧ (l40.length : Int) ≤ 1099511627776) ∧ (true = decide ((l23, l24, false) = (l39, l40, true)) → true = true) ∧ (false = decide ((l23, l24, false) = (l39, l40, true)) → false = true)) ∧ (false = decide ((l23, l24, false) =
 (l39, l40, true)) → ((l23.length : Int) ≤ 1099511627776 ∧ (l24.length : Int) ≤ 1099511627776 ∧ (l39.length : Int) ≤ 1099511627776 ∧ (l40.length : Int) ≤ 1099511627776) ∧ (true = decide ((l23, l24, false) = (l39, l40, true)) → true = true) ∧
 (false = decide ((l23, l24, false) = (l39, l40, true)) → false = true)))) ∧ (Fed l1 l2 false l22 true l39 l40 false → false = true) ∧ (Fed l1 l2 false l22 false l39 l40 false → ((l23.length : Int) ≤ 1099511627776 ∧ (l24.length : Int) ≤
 1099511627776 ∧ (l39.length : Int) ≤ 1099511627776 ∧ (l40.length : Int) ≤ 1099511627776) ∧ (true = decide ((l23, l24, false) = (l39, l40, false)) → ((l23.length : Int) ≤ 1099511627776 ∧ (l24.length : Int) ≤ 1099511627776 ∧ (l39.length : Int)
 ≤ 1099511627776 ∧ (l40.length : Int) ≤ 1099511627776) ∧ (true = decide ((l23, l24, false) = (l39, l40, false)) → true = true) ∧ (false = decide ((l23, l24, false) = (l39, l40, false)) → false = true)) ∧ (false = decide ((l23, l24, false) =
 (l39, l40, false)) → ((l23.length : Int) ≤ 1099511627776 ∧ (l24.length : Int) ≤ 1099511627776 ∧ (l39.length : Int) ≤ 1099511627776 ∧ (l40.length : Int) ≤ 1099511627776) ∧ (true = decide ((l23, l24, false) = (l39, l40, false)) → true = true)
 ∧ (false = decide ((l23, l24, false) = (l39, l40, false)) → false = true)))))
theorem v_l_FnFeedNone : V_l_FnFeedNone := by
  unfold V_l_FnFeedNone
  intro code hz
  unfold Fed
  refine ⟨fun _ => rfl, fun hc => ⟨by omega, fun w t => ⟨?_, ?_⟩⟩⟩
  · rintro b ⟨hw, ht, hb⟩
    refine ⟨by omega, ?_⟩
    cases hok : (rdOk w t true && allIn 0 255 b) with
    | false =>
      simp only [reduceCtorEq, false_and, true_and, false_implies, implies_true, if_false, if_true, Bool.false_eq_true, Prod.mk.injEq, and_true, and_false, and_imp]
      repeat' (first | apply And.intro | (rintro _ _ rfl rfl) | (rintro _ rfl) | intro _)
      all_goals (first | omega | with_reducible rfl | trivial | contradiction | (simp only [marks_len, marks3_len]; omega) | (rename_i h; simp [marks_len, marks3_len] at h; done) | (rename_i h; simp [marks_len, marks3_len] at h; omega) | (rename_i h _; simp at h; done) | (rename_i h _ _; simp at h; done) | grind)
    | true =>
      obtain ⟨q1, q2⟩ := Bool.and_eq_true_iff.1 hok
      have hk := feedD_ok q1 q2
      have hN := feedD_none hk.1
      generalize feedD w t true b = R at *
      obtain ⟨x0, y0, z0⟩ := R
      dsimp only at *
      cases z0
      all_goals
        simp only [reduceCtorEq, false_and, true_and, false_implies, implies_true, if_false, if_true, Bool.false_eq_true, Prod.mk.injEq, and_true, and_false, and_imp]
        have hA : allIn 0 255 [] = true := rfl
        repeat' (first | apply And.intro | (rintro _ _ rfl rfl) | (rintro _ rfl) | intro _)
        all_goals (first | omega | with_reducible rfl | trivial | contradiction | (simp only [marks_len, marks3_len]; omega) | (rename_i h; simp [marks_len, marks3_len] at h; done) | (rename_i h; simp [marks_len, marks3_len] at h; omega) | (rename_i h _; simp at h; done) | (rename_i h _ _; simp at h; done) | grind)
  · rintro b ⟨hw, ht, hb⟩
    refine ⟨by omega, ?_⟩
    cases hok : (rdOk w t false && allIn 0 255 b) with
    | false =>
      simp only [reduceCtorEq, false_and, true_and, false_implies, implies_true, if_false, if_true, Bool.false_eq_true, Prod.mk.injEq, and_true, and_false, and_imp]
      repeat' (first | apply And.intro | (rintro _ _ rfl rfl) | (rintro _ rfl) | intro _)
      all_goals (first | omega | with_reducible rfl | trivial | contradiction | (simp only [marks_len, marks3_len]; omega) | (rename_i h; simp [marks_len, marks3_len] at h; done) | (rename_i h; simp [marks_len, marks3_len] at h; omega) | (rename_i h _; simp at h; done) | (rename_i h _ _; simp at h; done) | grind)
    | true =>
      obtain ⟨q1, q2⟩ := Bool.and_eq_true_iff.1 hok
      have hk := feedD_ok q1 q2
      have hN := feedD_none hk.1
      generalize feedD w t false b = R at *
      obtain ⟨x0, y0, z0⟩ := R
      dsimp only at *
      cases z0
      all_goals
        simp only [reduceCtorEq, false_and, true_and, false_implies, implies_true, if_false, if_true, Bool.false_eq_true, Prod.mk.injEq, and_true, and_false, and_imp]
        have hA : allIn 0 255 [] = true := rfl
        repeat' (first | apply And.intro | (rintro _ _ rfl rfl) | (rintro _ rfl) | intro _)
        all_goals (first | omega | with_reducible rfl | trivial | contradiction | (simp only [marks_len, marks3_len]; omega) | (rename_i h; simp [marks_len, marks3_len] at h; done) | (rename_i h; simp [marks_len, marks3_len] at h; omega) | (rename_i h _; simp at h; done) | (rename_i h _ _; simp at h; done) | grind)
def S_l_FnFeedNone : FSpec where
  args := [.sc (.sl .u8)]
  outs := [.sc .bool]
  pre := fun a => match a with
    | [.sc (.sl .u8 code)] => (((code).length : Nat) : Int) ≤ 9223372036854775807
    | _ => False
  post := fun a r => match a, r with
    | [.sc (.sl .u8 code)], [.sc (.bool r)] => r = true
    | _, _ => False
  kept := false
theorem m_l_FnFeedNone : Meets Try.prog 9 S_l_FnFeedNone :=
  meets tok mixed Try.func9 (by kernel_rfl) (l := [(12, S_s_StreamFeed), (15, S_i_StreamFeed), (28, S_s_DrawStreamFeed), (29, S_l_sameStream)]) ⟨m_s_StreamFeed, m_i_StreamFeed, m_s_DrawStreamFeed, m_l_sameStream, trivial⟩ (ann := []) v_l_FnFeedNone (by kernel_rfl)
theorem a_l_FnFeedNone : LawOf Try.prog Try.f9.params.toList S_l_FnFeedNone where
  args := by kernel_rfl
  outs := rfl
  pre := AKs.all_iff.1 (show AKs.all S_l_FnFeedNone.args (fun ds => bnds ds → S_l_FnFeedNone.pre ds) from fun x0 h => h.1)
  post := AKs.all_iff.1 (show AKs.all S_l_FnFeedNone.args (fun ds => ∀ b, S_l_FnFeedNone.post ds [.sc (.bool b)] → b = true) from fun x0 _ h => h)
set_option maxRecDepth 100000 in
theorem lifted_l_FnFeedNone (os : Os) (started : os.Started) (H : Type) (enc : TypeId × Value → H) :
    ReturnsInHanded {} Try.checked os 9 .any (Rows.fnFeedNoneSpec.pre6 enc Try.prog Try.f9 Rows.fnFeedNoneRow.domain false) (Rows.fnFeedNoneSpec.post enc Try.prog Try.f9 false true false false) :=
  law_lifted (C := Try.checked) (F := S_l_FnFeedNone) (by kernel_rfl) started (by kernel_rfl) Try.func9
    (ChangeSpec.witness6 (enc := enc) (C := Try.checked) false ⟨#[], #[.slice none 0 0], []⟩ 8 (by kernel_rfl) (by kernel_rfl) (by kernel_rfl) (by kernel_rfl))
    m_l_FnFeedNone a_l_FnFeedNone (by kernel_rfl) (of_decide_eq_true (by kernel_rfl)) rfl (fun ds h => by match ds, h with | [d0], _ => rfl) (by kernel_rfl) Try.underlying4
theorem facts_FnFeedNone : ∀ P : Program, P = Try.prog → P.initOrder.toList = ioNums.map Char.ofNat → joinedFacts P 9 Try.f9 Rows.fnFeedNoneSpec Rows.fnFeedNoneRow = true := by
  intro P hP h
  have h1 := io1 P hP h
  have h2 := io2 P hP h
  have h3 := io3 P hP h
  unfold joinedFacts
  rw [h1, h2, h3]
  subst hP
  show (_ : Bool) = true
  kernel_rfl
theorem proved_FnFeedNone : Rows.FnFeedNoneSaid :=
  OpenClaim.holds_of_wide 9 Try.f9 rfl rfl rfl rfl rfl rfl rfl ⟨rfl, rfl, rfl, rfl, rfl⟩ rfl rfl rfl rfl rfl (by kernel_rfl) Try.func9 (facts_FnFeedNone _ rfl ioL)
    (of_decide_eq_true (by kernel_rfl)) (by unfold Func.isWrapper; first | (rw [if_pos (by decide +kernel)]; kernel_rfl) | (rw [if_neg (by decide +kernel)]; exact ⟨rfl, rfl⟩))
    (fun os started H enc _ => lifted_l_FnFeedNone os started H enc)
end Go.Proofs.Ytgimfahkojmplaa
