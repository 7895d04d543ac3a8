/-
  FnExactStreamFeed: for every input the law returns true, and each argument reads afterwards as it read before. No conditions.
-/
import Derived.Test.YtkkgpcbkkahieaaRows
import Derived.Test.YtkkgpcbkkahieaaT
import Derived.Test.YtkkgpcbkkahieaaSa
import Derived.Test.YtkkgpcbkkahieaaSg
import Derived.Test.YtkkgpcbkkahieaaSi
import Derived.Test.YtkkgpcbkkahieaaSj
import Derived.Test.YtkkgpcbkkahieaaSk
import Derived.Test.YtkkgpcbkkahieaaSl
import Derived.Test.YtkkgpcbkkahieaaSm
import Derived.Test.YtkkgpcbkkahieaaSn
import Derived.Test.YtkkgpcbkkahieaaSo
import Derived.Test.YtkkgpcbkkahieaaSp
import Derived.Test.YtkkgpcbkkahieaaSr
import Derived.Test.YtkkgpcbkkahieaaSt
import Derived.Test.YtkkgpcbkkahieaaSx
set_option linter.unusedVariables false
set_option linter.unusedSimpArgs false
open Go Go.Ax Go.Mx Go.ChangeShapes Go.WideShapes Go.RowKit Go.ChangeAt
namespace Go.Proofs.Ytkkgpcbkkahieaa
def V_l_FnExactStreamFeed : Prop :=
  ∀ (l0 l1 : List Int), (∀ (l2 : List Int), (l0.length : Int) ≤ (9223372036854775807 : Int) ∧ (l1.length : Int) ≤ (9223372036854775807 : Int) ∧ (l2.length : Int) ≤ (9223372036854775807 : Int) → (1048576 < (l2.length : Int) → true = true) ∧
 (¬1048576 < (l2.length : Int) → ((l0.length : Int) ≤ (9223372036854775807 : Int) ∧ (l1.length : Int) ≤ (9223372036854775807 : Int) ∧ (0 : Int) ≤ 1048576 ∧ (1048576 : Int) ≤ 1048576) ∧ ∀ (n3 : Int), n3 ≤ 1048576 ∧ (0 ≤ n3 → (l0.length : Int)
 + (l1.length : Int) ≤ 1048576) → (n3 < 0 → true = true) ∧ (¬n3 < 0 → ((l0.length : Int) ≤ 1099511627776 ∧ (l1.length : Int) ≤ 1099511627776) ∧ ∀ (l4 l5 : List Int), (l4 = l0 ∧ l5 = l1 ∧ true = true → (l2.length : Int) ≤ 1099511627776 ∧ ∀ (l6
 : List Int), l6 = l2 → ((l4.length : Int) ≤ 10000000000 ∧ (l5.length : Int) ≤ 10000000000 ∧ (l6.length : Int) ≤ 10000000000) ∧ ∀ (l7 l8 : List Int), ((Fed l4 l5 true l6 true l7 l8 true → ((l0.length : Int) ≤ 1099511627776 ∧ (l1.length : Int)
 ≤ 1099511627776) ∧ ∀ (l9 l10 : List Int), (l9 = l0 ∧ l10 = l1 ∧ true = true → (l2.length : Int) ≤ 1099511627776 ∧ ∀ (l11 : List Int), l11 = l2 → ((l9.length : Int) ≤ 10000000000 ∧ (l10.length : Int) ≤ 10000000000 ∧ (l11.length : Int) ≤
 10000000000) ∧ ∀ (l12 l13 : List Int), ((Fed l9 l10 true l11 true l12 l13 true → ((l12.length : Int) ≤ 1099511627776 ∧ (l13.length : Int) ≤ 1099511627776 ∧ (l7.length : Int) ≤ 1099511627776 ∧ (l8.length : Int) ≤ 1099511627776) ∧ (true =
 decide ((l12, l13, true) = (l7, l8, true)) → (∃ (xs : List Int), ∃ (xs_1 : List Int), ∃ (b : Bool), bif b then xs = l0 ∧ xs_1 = l1 ∧ b = true else False) ∧ ((l0.length : Int) ≤ 1099511627776 ∧ (l1.length : Int) ≤ 1099511627776) ∧ ∀ (l14 l15
 : List Int), (l14 = l0 ∧ l15 = l1 ∧ true = true → (∃ (b : Bool), bif bif b then true else true then b = decide ((l9, l10, true) = (l14, l15, true)) else False) ∧ ((l9.length : Int) ≤ 1099511627776 ∧ (l10.length : Int) ≤ 1099511627776 ∧
 (l14.length : Int) ≤ 1099511627776 ∧ (l15.length : Int) ≤ 1099511627776) ∧ (true = decide ((l9, l10, true) = (l14, l15, true)) → (l2.length : Int) ≤ 1099511627776 ∧ ∀ (l16 : List Int), l16 = l2 → ((l11.length : Int) ≤ 1099511627776 ∧
 (l16.length : Int) ≤ 1099511627776) ∧ (true = decide (l11 = l16) → (0 : Int) ≤ 1 ∧ (1 : Int) ≤ 1000000 ∧ (l9.length : Int) ≤ 1099511627776 ∧ (l10.length : Int) ≤ 1099511627776 ∧ ((l11.length : Int) ≤ 1099511627776 ∧ (0 : Int) ≤ 1 +
 (l9.length : Int) + (l10.length : Int) ∧ 1 + (l9.length : Int) + (l10.length : Int) ≤ 1000000000000000) ∧ ∀ (l17 : List Int) (n18 : Int), n18 = 1 + (l9.length : Int) + (l10.length : Int) + (l11.length : Int) ∧ l17 = marks (1 + (l9.length :
 Int) + (l10.length : Int)) (l11.length) → (n18 < 0 → false = true) ∧ (¬n18 < 0 → ((l12.length : Int) ≤ 1099511627776 ∧ (l13.length : Int) ≤ 1099511627776 ∧ (l7.length : Int) ≤ 1099511627776 ∧ (l8.length : Int) ≤ 1099511627776) ∧ (true =
 decide ((l12, l13, true) = (l7, l8, true)) → (0 : Int) ≤ 1 ∧ (1 : Int) ≤ 1000000 ∧ (l12.length : Int) ≤ 1099511627776 ∧ (l13.length : Int) ≤ 1099511627776 ∧ ((↑(List.length (markL 1 (l12.length))) : Int) ≤ 1099511627776 ∧ (↑(List.length
 (markL (1 + (l12.length : Int)) (l13.length))) : Int) ≤ 1099511627776 ∧ (0 : Int) ≤ 1 ∧ (1 : Int) ≤ 1000000) ∧ ∀ (n19 : Int), (n19 = if markL 1 (l12.length) = marks 1 (List.length (markL 1 (l12.length))) ∧ markL (1 + (l12.length : Int))
 (l13.length) = marks (1 + (↑(List.length (markL 1 (l12.length))) : Int)) (List.length (markL (1 + (l12.length : Int)) (l13.length))) then 1 + (↑(List.length (markL 1 (l12.length))) : Int) + (↑(List.length (markL (1 + (l12.length : Int))
 (l13.length))) : Int) else -1) → (n19 < 0 → false = true) ∧ (¬n19 < 0 → (n19 ≠ 1 + (l12.length : Int) + (l13.length : Int) → false = true) ∧ (¬n19 ≠ 1 + (l12.length : Int) + (l13.length : Int) → ((l0.length : Int) ≤ 1099511627776 ∧
 (l1.length : Int) ≤ 1099511627776) ∧ ∀ (l20 l21 : List Int), (l20 = l0 ∧ l21 = l1 ∧ true = true → (l2.length : Int) ≤ 1099511627776 ∧ ∀ (l22 : List Int), l22 = l2 → ((l20.length : Int) ≤ 10000000000 ∧ (l21.length : Int) ≤ 10000000000 ∧
 (l22.length : Int) ≤ 10000000000) ∧ ∀ (l23 l24 : List Int), ((Fed l20 l21 true l22 true l23 l24 true → ((l23.length : Int) ≤ 1099511627776 ∧ (l24.length : Int) ≤ 1099511627776 ∧ (l7.length : Int) ≤ 1099511627776 ∧ (l8.length : Int) ≤
 1099511627776) ∧ (true = decide ((l23, l24, true) = (l7, l8, true)) → ((↑(List.length (markL 1 (l12.length))) : Int) ≤ 1099511627776 ∧ (↑(List.length (markL (1 + (l12.length : Int)) (l13.length))) : Int) ≤ 1099511627776 ∧ (0 : Int) ≤ 1 ∧ (1
 : Int) ≤ 1000000) ∧ ∀ (n25 : Int), (n25 = if markL 1 (l12.length) = marks 1 (List.length (markL 1 (l12.length))) ∧ markL (1 + (l12.length : Int)) (l13.length) = marks (1 + (↑(List.length (markL 1 (l12.length))) : Int)) (List.length (markL (1
 + (l12.length : Int)) (l13.length))) then 1 + (↑(List.length (markL 1 (l12.length))) : Int) + (↑(List.length (markL (1 + (l12.length : Int)) (l13.length))) : Int) else -1) → (n25 < 0 → false = true) ∧ (¬n25 < 0 → (n25 ≠ 1 + (l12.length :
 Int) + (l13.length : Int) → false = true) ∧ (¬n25 ≠ 1 + (l12.length : Int) + (l13.length : Int) → true = true))) ∧ (false = decide ((l23, l24, true) = (l7, l8, true)) → false = true)) ∧ True) ∧ True ∧ (Fed l20 l21 true l22 false l23 l24
 false → ((l23.length : Int) ≤ 1099511627776 ∧ (l24.length : Int) ≤ 1099511627776 ∧ (l7.length : Int) ≤ 1099511627776 ∧ (l8.length : Int) ≤ 1099511627776) ∧ True ∧ (false = decide ((l23, l24, false) = (l7, l8, true)) → false = true))) ∧
 True))) ∧ (false = decide ((l12, l13, true) = (l7, l8, true)) → false = true))) ∧ (false = decide (l11 = l16) → false = true)) ∧ (false = decide ((l9, l10, true) = (l14, l15, true)) → false = true)) ∧ True) ∧ (false = decide ((l12, l13,
 true) = (l7, l8, true)) → false = true)) ∧ True) ∧ True ∧ (Fed l9 l10 true l11 false l12 l13 false → ((l12.length : Int) ≤ 1099511627776 ∧ (l13.length : Int) ≤ 1099511627776 ∧ (l7.length : Int) ≤ 1099511627776 ∧ (l8.length : Int) ≤
 1099511627776) ∧ True ∧ (false = decide ((l12, l13, false) = (l7, l8, true)) → false = true))) ∧ True) ∧ True) ∧ True ∧ (Fed l4 l5 true l6 false l7 l8 false → ((l0.length : Int) ≤ 1099511627776 ∧ (l1.length : Int) ≤ 1099511627776) ∧ ∀ (l26
 l27 : List Int), (l26 = l0 ∧ l27 = l1 ∧ true = true → (l2.length : Int) ≤ 1099511627776 ∧ ∀ (l28 : List Int), l28 = l2 → ((l26.length : Int) ≤ 10000000000 ∧ (l27.length : Int) ≤ 10000000000 ∧ (l28.length : Int) ≤ 10000000000) ∧ ∀ (l29 l30 :
 List Int), ((Fed l26 l27 true l28 true l29 l30 true → ((l29.length : Int) ≤ 1099511627776 ∧ (l30.length : Int) ≤ 1099511627776 ∧ (l7.length : Int) ≤ 1099511627776 ∧ (l8.length : Int) ≤ 1099511627776) ∧ True ∧ (false = decide ((l29, l30,
 true) = (l7, l8, false)) → false = true)) ∧ True) ∧ True ∧ (Fed l26 l27 true l28 false l29 l30 false → ((l29.length : Int) ≤ 1099511627776 ∧ (l30.length : Int) ≤ 1099511627776 ∧ (l7.length : Int) ≤ 1099511627776 ∧ (l8.length : Int) ≤
 1099511627776) ∧ (true = decide ((l29, l30, false) = (l7, l8, false)) → (∃ (xs : List Int), ∃ (xs_1 : List Int), ∃ (b : Bool), bif b then xs = l0 ∧ xs_1 = l1 ∧ b = true else False) ∧ ((l0.length : Int) ≤ 1099511627776 ∧ (l1.length : Int) ≤
 1099511627776) ∧ ∀ (l31 l32 : List Int), (l31 = l0 ∧ l32 = l1 ∧ true = true → (∃ (b : Bool), bif bif b then true else true then b = decide ((l26, l27, true) = (l31, l32, true)) else False) ∧ ((l26.length : Int) ≤ 1099511627776 ∧ (l27.length
 : Int) ≤ 1099511627776 ∧ (l31.length : Int) ≤ 1099511627776 ∧ (l32.length : Int) ≤ 1099511627776) ∧ (true = decide ((l26, l27, true) = (l31, l32, true)) → (l2.length : Int) ≤ 1099511627776 ∧ ∀ (l33 : List Int), l33 = l2 → ((l28.length : Int)
 ≤ 1099511627776 ∧ (l33.length : Int) ≤ 1099511627776) ∧ (true = decide (l28 = l33) → (0 : Int) ≤ 1 ∧ (1 : Int) ≤ 1000000 ∧ (l26.length : Int) ≤ 1099511627776 ∧ (l27.length : Int) ≤ 1099511627776 ∧ ((l28.length : Int) ≤ 1099511627776 ∧ (0 :
 Int) ≤ 1 + (l26.length : Int) + (l27.length : Int) ∧ 1 + (l26.length : Int) + (l27.length : Int) ≤ 1000000000000000) ∧ ∀ (l34 : List Int) (n35 : Int), n35 = 1 + (l26.length : Int) + (l27.length : Int) + (l28.length : Int) ∧ l34 = marks (1 +
 (l26.length : Int) + (l27.length : Int)) (l28.length) → (n35 < 0 → false = true) ∧ (¬n35 < 0 → ((l29.length : Int) ≤ 1099511627776 ∧ (l30.length : Int) ≤ 1099511627776 ∧ (l7.length : Int) ≤ 1099511627776 ∧ (l8.length : Int) ≤ 1099511627776)
 ∧ (true = decide ((l29, l30, false) = (l7, l8, false)) → (0 : Int) ≤ 1 ∧ (1 : Int) ≤ 1000000 ∧ (l29.length : Int) ≤ 1099511627776 ∧ (l30.length : Int) ≤ 1099511627776 ∧ ((↑(List.length (markL 1 (l29.length))) : Int) ≤ 1099511627776 ∧
 (↑(List.length (markL (1 + (l29.length : Int)) (l30.length))) : Int) ≤ 1099511627776 ∧ (0 : Int) ≤ 1 ∧ (1 : Int) ≤ 1000000) ∧ ∀ (n36 : Int), (n36 = if markL 1 (l29.length) = marks 1 (List.length (markL 1 (l29.length))) ∧ markL (1 +
 (l29.length : Int)) (l30.length) = marks (1 + (↑(List.length (markL 1 (l29.length))) : Int)) (List.length (markL (1 + (l29.length : Int)) (l30.length))) then 1 + (↑(List.length (markL 1 (l29.length))) : Int) + (↑(List.length (markL (1 +
 (l29.length : Int)) (l30.length))) : Int) else -1) → (n36 < 0 → false = true) ∧ (¬n36 < 0 → (n36 ≠ 1 + (l29.length : Int) + (l30.length : Int) → false = true) ∧ (¬n36 ≠ 1 + (l29.length : Int) + (l30.length : Int) → ((l0.length : Int) ≤
 1099511627776 ∧ (l1.length : Int) ≤ 1099511627776) ∧ ∀ (l37 l38 : List Int), (l37 = l0 ∧ l38 = l1 ∧ true = true → (l2.length : Int) ≤ 1099511627776 ∧ ∀ (l39 : List Int), l39 = l2 → ((l37.length : Int) ≤ 10000000000 ∧ (l38.length : Int) ≤
 10000000000 ∧ (l39.length : Int) ≤ 10000000000) ∧ ∀ (l40 l41 : List Int), ((Fed l37 l38 true l39 true l40 l41 true → ((l40.length : Int) ≤ 1099511627776 ∧ (l41.length : Int) ≤ 1099511627776 ∧ (l7.length : Int) ≤ 1099511627776 ∧ (l8.length :
 Int) ≤ 1099511627776) ∧ True ∧ (false = decide ((l40, l41, true) = (l7, l8, false)) → false = true)) ∧ True) ∧ True ∧ (Fed l37 l38 true l39 false l40 l41 false → ((l40.length : Int) ≤ 1099511627776 ∧ (l41.length : Int) ≤ 1099511627776 ∧
 (l7.length : Int) ≤ 1099511627776 ∧ (l8.length : Int) ≤ 1099511627776) ∧ (true = decide ((l40, l41, false) = (l7, l8, false)) → ((↑(List.length (markL 1 (l29.length))) : Int) ≤ 1099511627776 ∧ (↑(List.length (markL (1 + (l29.length : Int))
 (l30.length))) : Int) ≤ 1099511627776 ∧ (0 : Int) ≤ 1 ∧ (1 : Int) ≤ 1000000) ∧ ∀ (n42 : Int), (n42 = if markL 1 (l29.length) = marks 1 (List.length (markL 1 (l29.length))) ∧ markL (1 + (l29.length : Int)) (l30.length) = marks (1 +
 (↑(List.length (markL 1 (l29.length))) : Int)) (List.length (markL (1 + (l29.length : Int)) (l30.length))) then 1 + (↑(List.length (markL 1 (l29.length))) : Int) + (↑(List.length (markL (1 + (l29.length : Int)) (l30.length))) : Int) else -1)
 → (n42 < 0 → false = true) ∧ (¬n42 < 0 → (n42 ≠ 1 + (l29.length : Int) + (l30.length : Int) → false = true) ∧ (¬n42 ≠ 1 + (l29.length : Int) + (l30.length : Int) → true = true))) ∧ (false = decide ((l40, l41, false) = (l7, l8, false)) →
 false = true))) ∧ True))) ∧ (false = decide ((l29, l30, false) = (l7, l8, false)) → false = true))) ∧ (false = decide (l28 = l33) → false = true)) ∧ (false = decide ((l26, l27, true) = (l31, l32, true)) → false = true)) ∧ True) ∧ (false =
 decide ((l29, l30, false) = (l7, l8, false)) → false = true))) ∧ True)) ∧ True))) ∧ ∀ (l43 : List Int), (l0.length : Int) ≤ (9223372036854775807 : Int) ∧ (l1.length : Int) ≤ (9223372036854775807 : Int) ∧ (l43.length : Int) ≤
 (9223372036854775807 : Int) → (1048576 < (l43.length : Int) → true = true) ∧ (¬1048576 < (l43.length : Int) → ((l0.length : Int) ≤ (9223372036854775807 : Int) ∧ (l1.length : Int) ≤ (9223372036854775807 : Int) ∧ (0 : Int) ≤ 1048576 ∧ (1048576
 : Int) ≤ 1048576) ∧ ∀ (n44 : Int), n44 ≤ 1048576 ∧ (0 ≤ n44 → (l0.length : Int) + (l1.length : Int) ≤ 1048576) → (n44 < 0 → true = true) ∧ (¬n44 < 0 → ((l0.length : Int) ≤ 1099511627776 ∧ (l1.length : Int) ≤ 1099511627776) ∧ ∀ (l45 l46 :
 List Int), True ∧ (l45 = l0 ∧ l46 = l1 ∧ false = false → (l43.length : Int) ≤ 1099511627776 ∧ ∀ (l47 : List Int), l47 = l43 → ((l45.length : Int) ≤ 10000000000 ∧ (l46.length : Int) ≤ 10000000000 ∧ (l47.length : Int) ≤ 10000000000) ∧ ∀ (l48
 l49 : List Int), ((Fed l45 l46 false l47 true l48 l49 true → ((l0.length : Int) ≤ 1099511627776 ∧ (l1.length : Int) ≤ 1099511627776) ∧ ∀ (l50 l51 : List Int), True ∧ (l50 = l0 ∧ l51 = l1 ∧ false = false → (l43.length : Int) ≤ 1099511627776 ∧
 ∀ (l52 : List Int), l52 = l43 → ((l50.length : Int) ≤ 10000000000 ∧ (l51.length : Int) ≤ 10000000000 ∧ (l52.length : Int) ≤ 10000000000) ∧ ∀ (l53 l54 : List Int), ((Fed l50 l51 false l52 true l53 l54 true → ((l53.length : Int) ≤
 1099511627776 ∧ (l54.length : Int) ≤ 1099511627776 ∧ (l48.length : Int) ≤ 1099511627776 ∧ (l49.length : Int) ≤ 1099511627776) ∧ (true = decide ((l53, l54, true) = (l48, l49, true)) → (∃ (xs : List Int), ∃ (xs_1 : List Int), ∃ (b : Bool), bif
 !b then xs = l0 ∧ xs_1 = l1 ∧ b = false else False) ∧ ((l0.length : Int) ≤ 1099511627776 ∧ (l1.length : Int) ≤ 1099511627776) ∧ ∀ (l55 l56 : List Int), True ∧ (l55 = l0 ∧ l56 = l1 ∧ false = false → (∃ (b : Bool), bif bif b then !false else
 true then b = decide ((l50, l51, false) = (l55, l56, false)) else False) ∧ ((l50.length : Int) ≤ 1099511627776 ∧ (l51.length : Int) ≤ 1099511627776 ∧ (l55.length : Int) ≤ 1099511627776 ∧ (l56.length : Int) ≤ 1099511627776) ∧ (true = decide
 ((l50, l51, false) = (l55, l56, false)) → (l43.length : Int) ≤ 1099511627776 ∧ ∀ (l57 : List Int), l57 = l43 → ((l52.length : Int) ≤ 1099511627776 ∧ (l57.length : Int) ≤ 1099511627776) ∧ (true = decide (l52 = l57) → (0 : Int) ≤ 1 ∧ (1 : Int)
 ≤ 1000000 ∧ (l50.length : Int) ≤ 1099511627776 ∧ (l51.length : Int) ≤ 1099511627776 ∧ ((l52.length : Int) ≤ 1099511627776 ∧ (0 : Int) ≤ 1 + (l50.length : Int) + (l51.length : Int) ∧ 1 + (l50.length : Int) + (l51.length : Int) ≤
 1000000000000000) ∧ ∀ (l58 : List Int) (n59 : Int), n59 = 1 + (l50.length : Int) + (l51.length : Int) + (l52.length : Int) ∧ l58 = marks (1 + (l50.length : Int) + (l51.length : Int)) (l52.length) → (n59 < 0 → false = true) ∧ (¬n59 < 0 →
 ((l53.length : Int) ≤ 1099511627776 ∧ (l54.length : Int) ≤ 1099511627776 ∧ (l48.length : Int) ≤ 1099511627776 ∧ (l49.length : Int) ≤ 1099511627776) ∧ (true = decide ((l53, l54, true) = (l48, l49, true)) → (0 : Int) ≤ 1 ∧ (1 : Int) ≤ 1000000
 ∧ (l53.length : Int) ≤ 1099511627776 ∧ (l54.length : Int) ≤ 1099511627776 ∧ ((↑(List.length (markL 1 (l53.length))) : Int) ≤ 1099511627776 ∧ (↑(List.length (markL (1 + (l53.length : Int)) (l54.length))) : Int) ≤ 1099511627776 ∧ (0 : Int) ≤ 1
 ∧ (1 : Int) ≤ 1000000) ∧ ∀ (n60 : Int), (n60 = if markL 1 (l53.length) = marks 1 (List.length (markL 1 (l53.length))) ∧ markL (1 + (l53.length : Int)) (l54.length) = marks (1 + (↑(List.length (markL 1 (l53.length))) : Int)) (List.length
 (markL (1 + (l53.length : Int)) (l54.length))) then 1 + (↑(List.length (markL 1 (l53.length))) : Int) + (↑(List.length (markL (1 + (l53.length : Int)) (l54.length))) : Int) else -1) → (n60 < 0 → false = true) ∧ (¬n60 < 0 → (n60 ≠ 1 +
 (l53.length : Int) + (l54.length : Int) → false = true) ∧ (¬n60 ≠ 1 + (l53.length : Int) + (l54.length : Int) → ((l0.length : Int) ≤ 1099511627776 ∧ (l1.length : Int) ≤ 1099511627776) ∧ ∀ (l61 l62 : List Int), True ∧ (l61 = l0 ∧ l62 = l1 ∧
 false = false → (l43.length : Int) ≤ 1099511627776 ∧ ∀ (l63 : List Int), l63 = l43 → ((l61.length : Int) ≤ 10000000000 ∧ (l62.length : Int) ≤ 10000000000 ∧ (l63.length : Int) ≤ 10000000000) ∧ ∀ (l64 l65 : List Int), ((Fed l61 l62 false l63
 true l64 l65 true → ((l64.length : Int) ≤ 1099511627776 ∧ (l65.length : Int) ≤ 1099511627776 ∧ (l48.length : Int) ≤ 1099511627776 ∧ (l49.length : Int) ≤ 1099511627776) ∧ (true = decide ((l64, l65, true) = (l48, l49, true)) → ((↑(List.length
 (markL 1 (l53.length))) : Int) ≤ 1099511627776 ∧ (↑(List.length (markL (1 + (l53.length : Int)) (l54.length))) : Int) ≤ 1099511627776 ∧ (0 : Int) ≤ 1 ∧ (1 : Int) ≤ 1000000) ∧ ∀ (n66 : Int), (n66 = if markL 1 (l53.length) = marks 1
 (List.length (markL 1 (l53.length))) ∧ markL (1 + (l53.length : Int)) (l54.length) = marks (1 + (↑(List.length (markL 1 (l53.length))) : Int)) (List.length (markL (1 + (l53.length : Int)) (l54.length))) then 1 + (↑(List.length (markL 1
 (l53.length))) : Int) + (↑(List.length (markL (1 + (l53.length : Int)) (l54.length))) : Int) else -1) → (n66 < 0 → false = true) ∧ (¬n66 < 0 → (n66 ≠ 1 + (l53.length : Int) + (l54.length : Int) → false = true) ∧ (¬n66 ≠ 1 + (l53.length :
 Int) + (l54.length : Int) → true = true))) ∧ (false = decide ((l64, l65, true) = (l48, l49, true)) → false = true)) ∧ True) ∧ (Fed l61 l62 false l63 true l64 l65 false → ((l64.length : Int) ≤ 1099511627776 ∧ (l65.length : Int) ≤
 1099511627776 ∧ (l48.length : Int) ≤ 1099511627776 ∧ (l49.length : Int) ≤ 1099511627776) ∧ True ∧ (false = decide ((l64, l65, false) = (l48, l49, true)) → false = true)) ∧ (Fed l61 l62 false l63 false l64 l65 false → ((l64.length : Int) ≤
 1099511627776 ∧ (l65.length : Int) ≤ 1099511627776 ∧ (l48.length : Int) ≤ 1099511627776 ∧ (l49.length : Int) ≤ 1099511627776) ∧ True ∧ (false = decide ((l64, l65, false) = (l48, l49, true)) → false = true)))))) ∧ (false = decide ((l53, l54,
 true) = (l48, l49, true)) → false = true))) ∧ (false = decide (l52 = l57) → false = true)) ∧ (false = decide ((l50, l51, false) = (l55, l56, false)) → false = true))) ∧ (false = decide ((l53, l54, true) = (l48, l49, true)) → false = true)) ∧
 True) ∧ (Fed l50 l51 false l52 true l53 l54 false → ((l53.length : Int) ≤ 1099511627776 ∧ (l54.length : Int) ≤ 1099511627776 ∧ (l48.length : Int) ≤ 1099511627776 ∧ (l49.length : Int) ≤ 1099511627776) ∧ True ∧ (false = decide ((l53, l54,
 false) = (l48, l49, true)) → false = true)) ∧ (Fed l50 l51 false l52 false l53 l54 false → ((l53.length : Int) ≤ 1099511627776 ∧ (l54.length : Int) ≤ 1099511627776 ∧ (l48.length : Int) ≤ 1099511627776 ∧ (l49.length : Int) ≤ 1099511627776) ∧
 True ∧ (false = decide ((l53, l54, false) = (l48, l49, true)) → false = true)))) ∧ True) ∧ (Fed l45 l46 false l47 true l48 l49 false → ((l0.length : Int) ≤ 1099511627776 ∧ (l1.length : Int) ≤ 1099511627776) ∧ ∀ (l67 l68 : List Int), True ∧
 (l67 = l0 ∧ l68 = l1 ∧ false = false → (l43.length : Int) ≤ 1099511627776 ∧ ∀ (l69 : List Int), l69 = l43 → ((l67.length : Int) ≤ 10000000000 ∧ (l68.length : Int) ≤ 10000000000 ∧ (l69.length : Int) ≤ 10000000000) ∧ ∀ (l70 l71 : List Int),
 ((Fed l67 l68 false l69 true l70 l71 true → ((l70.length : Int) ≤ 1099511627776 ∧ (l71.length : Int) ≤ 1099511627776 ∧ (l48.length : Int) ≤ 1099511627776 ∧ (l49.length : Int) ≤ 1099511627776) ∧ True ∧ (false = decide ((l70, l71, true) =
 (l48, l49, false)) → false = true)) ∧ True) ∧ (Fed l67 l68 false l69 true l70 l71 false → ((l70.length : Int) ≤ 1099511627776 ∧ (l71.length : Int) ≤ 1099511627776 ∧ (l48.length : Int) ≤ 1099511627776 ∧ (l49.length : Int) ≤ 1099511627776) ∧
 (true = decide ((l70, l71, false) = (l48, l49, false)) → (∃ (xs : List Int), ∃ (xs_1 : List Int), ∃ (b : Bool), bif !b then xs = l0 ∧ xs_1 = l1 ∧ b = false else False) ∧ ((l0.length : Int) ≤ 1099511627776 ∧ (l1.length : Int) ≤ 1099511627776)
 ∧ ∀ (l72 l73 : List Int), True ∧ (l72 = l0 ∧ l73 = l1 ∧ false = false → (∃ (b : Bool), bif bif b then !false else true then b = decide ((l67, l68, false) = (l72, l73, false)) else False) ∧ ((l67.length : Int) ≤ 1099511627776 ∧ (l68.length :
 Int) ≤ 1099511627776 ∧ (l72.length : Int) ≤ 1099511627776 ∧ (l73.length : Int) ≤ 1099511627776) ∧ (true = decide ((l67, l68, false) = (l72, l73, false)) → (l43.length : Int) ≤ 1099511627776 ∧ ∀ (l74 : List Int), l74 = l43 → ((l69.length :
 Int) ≤ 1099511627776 ∧ (l74.length : Int) ≤ 1099511627776) ∧ (true = decide (l69 = l74) → (0 : Int) ≤ 1 ∧ (1 : Int) ≤ 1000000 ∧ (l67.length : Int) ≤ 1099511627776 ∧ (l68.length : Int) ≤ 1099511627776 ∧ ((l69.length : Int) ≤ 1099511627776 ∧
 (0 : Int) ≤ 1 + (l67.length : Int) + (l68.length : Int) ∧ 1 + (l67.length : Int) + (l68.length : Int) ≤ 1000000000000000) ∧ ∀ (l75 : List Int) (n76 : Int), n76 = 1 + (l67.length : Int) + (l68.length : Int) + (l69.length : Int) ∧ l75 = marks
 (1 + (l67.length : Int) + (l68.length : Int)) (l69.length) → (n76 < 0 → false = true) ∧ (¬n76 < 0 → ((l70.length : Int) ≤ 1099511627776 ∧ (l71.length : Int) ≤ 1099511627776 ∧ (l48.length : Int) ≤ 1099511627776 ∧ (l49.length : Int) ≤
 1099511627776) ∧ (true = decide ((l70, l71, false) = (l48, l49, false)) → (0 : Int) ≤ 1 ∧ (1 : Int) ≤ 1000000 ∧ (l70.length : Int) ≤ 1099511627776 ∧ (l71.length : Int) ≤ 1099511627776 ∧ ((↑(List.length (markL 1 (l70.length))) : Int) ≤
 1099511627776 ∧ (↑(List.length (markL (1 + (l70.length : Int)) (l71.length))) : Int) ≤ 1099511627776 ∧ (0 : Int) ≤ 1 ∧ (1 : Int) ≤ 1000000) ∧ ∀ (n77 : Int), (n77 = if markL 1 (l70.length) = marks 1 (List.length (markL 1 (l70.length))) ∧
 markL (1 + (l70.length : Int)) (l71.length) = marks (1 + (↑(List.length (markL 1 (l70.length))) : Int)) (List.length (markL (1 + (l70.length : Int)) (l71.length))) then 1 + (↑(List.length (markL 1 (l70.length))) : Int) + (↑(List.length
 (markL (1 + (l70.length : Int)) (l71.length))) : Int) else -1) → (n77 < 0 → false = true) ∧ (¬n77 < 0 → (n77 ≠ 1 + (l70.length : Int) + (l71.length : Int) → false = true) ∧ (¬n77 ≠ 1 + (l70.length : Int) + (l71.length : Int) → ((l0.length :
 Int) ≤ 1099511627776 ∧ (l1.length : Int) ≤ 1099511627776) ∧ ∀ (l78 l79 : List Int), True ∧ (l78 = l0 ∧ l79 = l1 ∧ false = false → (l43.length : Int) ≤ 1099511627776 ∧ ∀ (l80 : List Int), l80 = l43 → ((l78.length : Int) ≤ 10000000000 ∧
 (l79.length : Int) ≤ 10000000000 ∧ (l80.length : Int) ≤ 10000000000) ∧ ∀ (l81 l82 : List Int), ((Fed l78 l79 false l80 true l81 l82 true → ((l81.length : Int) ≤ 1099511627776 ∧ (l82.length : Int) ≤ 1099511627776 ∧ (l48.length : Int) ≤
 1099511627776 ∧ (l49.length : Int) ≤ 1099511627776) ∧ True ∧ (false = decide ((l81, l82, true) = (l48, l49, false)) → false = true)) ∧ True) ∧ (Fed l78 l79 false l80 true l81 l82 false → ((l81.length : Int) ≤ 1099511627776 ∧ (l82.length :
 Int) ≤ 1099511627776 ∧ (l48.length : Int) ≤ 1099511627776 ∧ (l49.length : Int) ≤ 1099511627776) ∧ (true = decide ((l81, l82, false) = (l48, l49, false)) → ((↑(List.length (markL 1 (l70.length))) : Int) ≤ 1099511627776 ∧ (↑(List.length (markL
 (1 + (l70.length : Int)) (l71.length))) : Int) ≤ 1099511627776 ∧ (0 : Int) ≤ 1 ∧ (1 : Int) ≤ 1000000) ∧ ∀ (n83 : Int), (n83 = if markL 1 (l70.length) = marks 1 (List.length (markL 1 (l70.length))) ∧ markL (1 + (l70.length : Int))
 (l71.length) = marks (1 + (↑(List.length (markL 1 (l70.length))) : Int)) (List.length (markL (1 + (l70.length : Int)) (l71.length))) then 1 + (↑(List.length (markL 1 (l70.length))) : Int) + (↑(List.length (markL (1 + (l70.length : Int))
 (l71.length))) : Int) else -1) → (n83 < 0 → false = true) ∧ (¬n83 < 0 → (n83 ≠ 1 + (l70.length : Int) + (l71.length : Int) → false = true) ∧ (¬n83 ≠ 1 + (l70.length : Int) + (l71.length : Int) → true = true))) ∧ (false = decide ((l81, l82,
 false) = (l48, l49, false)) → false = true)) ∧ (Fed l78 l79 false l80 false l81 l82 false → ((l81.length : Int) ≤ 1099511627776 ∧ (l82.length : Int) ≤ 1099511627776 ∧ (l48.length : Int) ≤ 1099511627776 ∧ (l49.length : Int) ≤ 1099511627776) ∧
 (true = decide ((l81, l82, false) = (l48, l49, false)) → false = true) ∧ (false = decide ((l81, l82, false) = (l48, l49, false)) → false = true)))))) ∧ (false = decide ((l70, l71, false) = (l48, l49, false)) → false = true))) ∧ (false =
 decide (l69 = l74) → false = true)) ∧ (false = decide ((l67, l68, false) = (l72, l73, false)) → false = true))) ∧ (false = decide ((l70, l71, false) = (l48, l49, false)) → false = true)) ∧ (Fed l67 l68 false l69 false l70 l71 false →
 ((l70.length : Int) ≤ 1099511627776 ∧ (l71.length : Int) ≤ 1099511627776 ∧ (l48.length : Int) ≤ 1099511627776 ∧ (l49.length : Int) ≤ 1099511627776) ∧ (true = decide ((l70, l71, false) = (l48, l49, false)) → false = true) ∧ (false = decide
 ((l70, l71, false) = (l48, l49, false)) → false = true)))) ∧ (Fed l45 l46 false l47 false l48 l49 false → ((l0.length : Int) ≤ 1099511627776 ∧ (l1.length : Int) ≤ 1099511627776) ∧ ∀ (l84 l85 : List Int), True ∧ (l84 = l0 ∧ l85 = l1 ∧ false =
 false → (l43.length : Int) ≤ 1099511627776 ∧ ∀ (l86 : List Int), l86 = l43 → ((l84.length : Int) ≤ 10000000000 ∧ (l85.length : Int) ≤ 10000000000 ∧ (l86.length : Int) ≤ 10000000000) ∧ ∀ (l87 l88 : List Int), ((Fed l84 l85 false l86 true l87
 l88 true → ((l87.length : Int) ≤ 1099511627776 ∧ (l88.length : Int) ≤ 1099511627776 ∧ (l48.length : Int) ≤ 1099511627776 ∧ (l49.length : Int) ≤ 1099511627776) ∧ True ∧ (false = decide ((l87, l88, true) = (l48, l49, false)) → false = true)) ∧
 True) ∧ (Fed l84 l85 false l86 true l87 l88 false → ((l87.length : Int) ≤ 1099511627776 ∧ (l88.length : Int) ≤ 1099511627776 ∧ (l48.length : Int) ≤ 1099511627776 ∧ (l49.length : Int) ≤ 1099511627776) ∧ (true = decide ((l87, l88, false) =
 (l48, l49, false)) → false = true) ∧ (false = decide ((l87, l88, false) = (l48, l49, false)) → false = true)) ∧ (Fed l84 l85 false l86 false l87 l88 false → ((l87.length : Int) ≤ 1099511627776 ∧ (l88.length : Int) ≤ 1099511627776 ∧
 (l48.length : Int) ≤ 1099511627776 ∧ (l49.length : Int) ≤ 1099511627776) ∧ (true = decide ((l87, l88, false) = (l48, l49, false)) → (∃ (xs : List Int), ∃ (xs_1 : List Int), ∃ (b : Bool), bif !b then xs = l0 ∧ xs_1 = l1 ∧ b = false else
 False) ∧ ((l0.length : Int) ≤ 1099511627776 ∧ (l1.length : Int) ≤ 1099511627776) ∧ ∀ (l89 l90 : List Int), True ∧ (l89 = l0 ∧ l90 = l1 ∧ false = false → (∃ (b : Bool), bif bif b then !false else true then b = decide ((l84, l85, false) =
 (l89, l90, false)) else False) ∧ ((l84.length : Int) ≤ 1099511627776 ∧ (l85.length : Int) ≤ 1099511627776 ∧ (l89.length : Int) ≤ 1099511627776 ∧ (l90.length : Int) ≤ 1099511627776) ∧ (true = decide ((l84, l85, false) = (l89, l90, false)) →
 (l43.length : Int) ≤ 1099511627776 ∧ ∀ (l91 : List Int), l91 = l43 → ((l86.length : Int) ≤ 1099511627776 ∧ (l91.length : Int) ≤ 1099511627776) ∧ (true = decide (l86 = l91) → (0 : Int) ≤ 1 ∧ (1 : Int) ≤ 1000000 ∧ (l84.length : Int) ≤
 1099511627776 ∧ (l85.length : Int) ≤ 1099511627776 ∧ ((l86.length : Int) ≤ 1099511627776 ∧ (0 : Int) ≤ 1 + (l84.length : Int) + (l85.length : Int) ∧ 1 + (l84.length : Int) + (l85.length : Int) ≤ 1000000000000000) ∧ ∀ (l92 : List Int) (n93 :
 Int), n93 = 1 + (l84.length : Int) + (l85.length : Int) + (l86.length : Int) ∧ l92 = marks (1 + (l84.length : Int) + (l85.length : Int)) (l86.length) → (n93 < 0 → false = true) ∧ (¬n93 < 0 → ((l87.length : Int) ≤ 1099511627776 ∧ (l88.length
 : Int) ≤ 1099511627776 ∧ (l48.length : Int) ≤ 1099511627776 ∧ (l49.length : Int) ≤ 1099511627776) ∧ (true = decide ((l87, l88, false) = (l48, l49, false)) → (0 : Int) ≤ 1 ∧ (1 : Int) ≤ 1000000 ∧ (l87.length : Int) ≤ 1099511627776 ∧
 (l88.length : Int) ≤ 1099511627776 ∧ ((↑(List.length (markL 1 (l87.length))) : Int) ≤ 1099511627776 ∧ (↑(List.length (markL (1 + (l87.length : Int)) (l88.length))) : Int) ≤ 1099511627776 ∧ (0 : Int) ≤ 1 ∧ (1 : Int) ≤ 1000000) ∧ ∀ (n94 :
 Int), (n94 = if markL 1 (l87.length) = marks 1 (List.length (markL 1 (l87.length))) ∧ markL (1 + (l87.length : Int)) (l88.length) = marks (1 + (↑(List.length (markL 1 (l87.length))) : Int)) (List.length (markL (1 + (l87.length : Int))
 (l88.length))) then 1 + (↑(List.length (markL 1 (l87.length))) : Int) + (↑(List.length (markL (1 + (l87.length : Int)) (l88.length))) : Int) else -1) → (n94 < 0 → false = true) ∧ (¬n94 < 0 → (n94 ≠ 1 + (l87.length : Int) + (l88.length : Int)
 → false = true) ∧ (¬n94 ≠ 1 + (l87.length : Int) + (l88.length : Int) → ((l0.length : Int) ≤ 1099511627776 ∧ (l1.length : Int) ≤ 1099511627776) ∧ ∀ (l95 l96 : List Int), True ∧ (l95 = l0 ∧ l96 = l1 ∧ false = false → (l43.length : Int) ≤
 1099511627776 ∧ ∀ (l97 : List Int), l97 = l43 → ((l95.length : Int) ≤ 10000000000 ∧ (l96.length : Int) ≤ 10000000000 ∧ (l97.length : Int) ≤ 10000000000) ∧ ∀ (l98 l99 : List Int), ((Fed l95 l96 false l97 true l98 l99 true → ((l98.length :
 Int) ≤ 1099511627776 ∧ (l99.length : Int) ≤ 1099511627776 ∧ (l48.length : Int) ≤ 1099511627776 ∧ (l49.length : Int) ≤ 1099511627776) ∧ True ∧ (false = decide ((l98, l99, true) = (l48, l49, false)) → false = true)) ∧ True) ∧ (Fed l95 l96
 false l97 true l98 l99 false → ((l98.length : Int) ≤ 1099511627776 ∧ (l99.length : Int) ≤ 1099511627776 ∧ (l48.length : Int) ≤ 1099511627776 ∧ (l49.length : Int) ≤ 1099511627776) ∧ (true = decide ((l98, l99, false) = (l48, l49, false)) →
 false = true) ∧ (false = decide ((l98, l99, false) = (l48, l49, false)) → false = true)) ∧ (Fed l95 l96 false l97 false l98 l99 false → ((l98.length : Int) ≤ 1099511627776 ∧ (l99.length : Int) ≤ 1099511627776 ∧ (l48.length : Int) ≤
 1099511627776 ∧ (l49.length : Int) ≤ 1099511627776) ∧ (true = decide ((l98, l99, false) = (l48, l49, false)) → ((↑(List.length (markL 1 (l87.length))) : Int) ≤ 1099511627776 ∧ (↑(List.length (markL (1 + (l87.length : Int)) (l88.length))) :
 Int) ≤ 1099511627776 ∧ (0 : Int) ≤ 1 ∧ (1 : Int) ≤ 1000000) ∧ ∀ (n100 : Int), (n100 = if markL 1 (l87.length) = marks 1 (List.length (markL 1 (l87.length))) ∧ markL (1 + (l87.length : Int)) (l88.length) = marks (1 + (↑(List.length (markL 1
 (l87.length))) : Int)) (List.length (markL (1 + (l87.length : Int)) (l88.length))) then 1 + (↑(List.length (markL 1 (l87.length))) : Int) + (↑(List.length (markL (1 + (l87.length : Int)) (l88.length))) : Int) else -1) → (n100 < 0 → false =
 true) ∧ (¬n100 < 0 → (n100 ≠ 1 + (l87.length : Int) + (l88.length : Int) → false = true) ∧ (¬n100 ≠ 1 + (l87.length : Int) + (l88.length : Int) → true = true))) ∧ (false = decide ((l98, l99, false) = (l48, l49, false)) → false = true)))))) ∧
 (false = decide ((l87, l88, false) = (l48, l49, false)) → false = true))) ∧ (false = decide (l86 = l91) → false = true)) ∧ (false = decide ((l84, l85, false) = (l89, l90, false)) → false = true))) ∧ (false = decide ((l87, l88, false) = (l48,
 l49, false)) → false = true)))))))
theorem v_l_FnExactStreamFeed : V_l_FnExactStreamFeed := by
  unfold V_l_FnExactStreamFeed
  have mk : ∀ (k : Int) (n : Nat), markL k n = marks k n := fun k n => markL_eq n k
  have det : ∀ {w t : List Int} {bad : Bool} {b : List Int} {o o' : Bool} {x y x' y' : List Int} {z z' : Bool}, Fed w t bad b o x y z → Fed w t bad b o' x' y' z' → o = o' ∧ x = x' ∧ y = y' ∧ z = z' := by
    rintro w t bad b o o' x y x' y' z z' ⟨a1, a2, -⟩ ⟨b1, b2, -⟩
    obtain rfl : o = o' := a1.trans b1.symm
    rw [← b2] at a2
    simp only [Prod.mk.injEq] at a2
    exact ⟨rfl, a2⟩
  have bd : ∀ {w t : List Int} {bad : Bool} {b : List Int} {o : Bool} {x y : List Int} {z : Bool}, Fed w t bad b o x y z → (x.length : Int) ≤ (w.length : Int) + (b.length : Int) ∧ (y.length : Int) ≤ 120 := fun h => ⟨h.2.2.1, h.2.2.2⟩
  intro l0 l1
  refine ⟨?_, ?_⟩
  ·intro l2
   intro h1
   refine ⟨fun _ => rfl, ?_⟩
   intro h2
   refine ⟨⟨by omega, by omega, by omega, by omega⟩, ?_⟩
   intro n3
   intro h3
   refine ⟨fun _ => rfl, ?_⟩
   intro h4
   refine ⟨⟨by omega, by omega⟩, ?_⟩
   intro l4 l5
   refine ⟨?_, trivial⟩
   intro ⟨e0, e1, _⟩
   have e0 := e0.symm; subst e0
   have e1 := e1.symm; subst e1
   refine ⟨by omega, ?_⟩
   intro l6
   intro e0
   have e0 := e0.symm; subst e0
   refine ⟨⟨by omega, by omega, by omega⟩, ?_⟩
   intro l7 l8
   refine ⟨?_, trivial, ?_⟩
   ·refine ⟨?_, trivial⟩
    intro F7
    have g := bd F7
    refine ⟨⟨by omega, by omega⟩, ?_⟩
    intro l9 l10
    refine ⟨?_, trivial⟩
    intro ⟨e0, e1, _⟩
    have e0 := e0.symm; subst e0
    have e1 := e1.symm; subst e1
    refine ⟨by omega, ?_⟩
    intro l11
    intro e0
    have e0 := e0.symm; subst e0
    refine ⟨⟨by omega, by omega, by omega⟩, ?_⟩
    intro l12 l13
    refine ⟨?_, trivial, ?_⟩
    ·refine ⟨?_, trivial⟩
     intro F10
     obtain ⟨-, u, v, -⟩ := det F10 F7
     have u := u.symm; have v := v.symm; subst u v; clear F10
     refine ⟨⟨by omega, by omega, by omega, by omega⟩, ?_, fun h => absurd h (by simp)⟩
     intro _
     refine ⟨?_, ⟨by omega, by omega⟩, ?_⟩
     ·exact ⟨l0, l1, true, rfl, rfl, rfl⟩
     ·intro l14 l15
      refine ⟨?_, trivial⟩
      intro ⟨e0, e1, _⟩
      have e0 := e0.symm; subst e0
      have e1 := e1.symm; subst e1
      refine ⟨?_, ⟨by omega, by omega, by omega, by omega⟩, ?_, fun h => absurd h (by simp)⟩
      ·exact ⟨true, by simp⟩
      ·intro _
       refine ⟨by omega, ?_⟩
       intro l16
       intro e0
       have e0 := e0.symm; subst e0
       refine ⟨⟨by omega, by omega⟩, ?_, fun h => absurd h (by simp)⟩
       intro _
       refine ⟨by omega, by omega, by omega, by omega, ⟨by omega, by omega, by omega⟩, ?_⟩
       intro l17 n18
       intro ⟨e0, e1⟩
       have e0 := e0.symm; subst e0
       have e1 := e1.symm; subst e1
       refine ⟨fun h => by omega, ?_⟩
       intro h17
       refine ⟨⟨by omega, by omega, by omega, by omega⟩, ?_, fun h => absurd h (by simp)⟩
       intro _
       refine ⟨by omega, by omega, by omega, by omega, ?_, ?_⟩
       ·refine ⟨?_, ?_, by omega, by omega⟩
        ·simp only [mk, marks_len]; omega
        ·simp only [mk, marks_len]; omega
       ·intro n19
        intro h; simp only [mk, marks_len, and_self, if_true] at h; have h := h.symm; subst h
        refine ⟨fun h => by omega, ?_⟩
        intro h20
        refine ⟨fun h => by omega, ?_⟩
        intro h21
        refine ⟨⟨by omega, by omega⟩, ?_⟩
        intro l20 l21
        refine ⟨?_, trivial⟩
        intro ⟨e0, e1, _⟩
        have e0 := e0.symm; subst e0
        have e1 := e1.symm; subst e1
        refine ⟨by omega, ?_⟩
        intro l22
        intro e0
        have e0 := e0.symm; subst e0
        refine ⟨⟨by omega, by omega, by omega⟩, ?_⟩
        intro l23 l24
        refine ⟨?_, trivial, ?_⟩
        ·refine ⟨?_, trivial⟩
         intro F24
         obtain ⟨-, u, v, -⟩ := det F24 F7
         have u := u.symm; have v := v.symm; subst u v; clear F24
         refine ⟨⟨by omega, by omega, by omega, by omega⟩, ?_, fun h => absurd h (by simp)⟩
         intro _
         refine ⟨?_, ?_⟩
         ·refine ⟨?_, ?_, by omega, by omega⟩
          ·simp only [mk, marks_len]; omega
          ·simp only [mk, marks_len]; omega
         ·intro n25
          intro h; simp only [mk, marks_len, and_self, if_true] at h; have h := h.symm; subst h
          refine ⟨fun h => by omega, ?_⟩
          intro h27
          exact ⟨fun h => by omega, fun _ => rfl⟩
        ·intro F28
         exact absurd (det F28 F7) (by simp)
    ·intro F29
     exact absurd (det F29 F7) (by simp)
   ·intro F30
    have g := bd F30
    refine ⟨⟨by omega, by omega⟩, ?_⟩
    intro l26 l27
    refine ⟨?_, trivial⟩
    intro ⟨e0, e1, _⟩
    have e0 := e0.symm; subst e0
    have e1 := e1.symm; subst e1
    refine ⟨by omega, ?_⟩
    intro l28
    intro e0
    have e0 := e0.symm; subst e0
    refine ⟨⟨by omega, by omega, by omega⟩, ?_⟩
    intro l29 l30
    refine ⟨?_, trivial, ?_⟩
    ·refine ⟨?_, trivial⟩
     intro F33
     exact absurd (det F33 F30) (by simp)
    ·intro F34
     obtain ⟨-, u, v, -⟩ := det F34 F30
     have u := u.symm; have v := v.symm; subst u v; clear F34
     refine ⟨⟨by omega, by omega, by omega, by omega⟩, ?_, fun h => absurd h (by simp)⟩
     intro _
     refine ⟨?_, ⟨by omega, by omega⟩, ?_⟩
     ·exact ⟨l0, l1, true, rfl, rfl, rfl⟩
     ·intro l31 l32
      refine ⟨?_, trivial⟩
      intro ⟨e0, e1, _⟩
      have e0 := e0.symm; subst e0
      have e1 := e1.symm; subst e1
      refine ⟨?_, ⟨by omega, by omega, by omega, by omega⟩, ?_, fun h => absurd h (by simp)⟩
      ·exact ⟨true, by simp⟩
      ·intro _
       refine ⟨by omega, ?_⟩
       intro l33
       intro e0
       have e0 := e0.symm; subst e0
       refine ⟨⟨by omega, by omega⟩, ?_, fun h => absurd h (by simp)⟩
       intro _
       refine ⟨by omega, by omega, by omega, by omega, ⟨by omega, by omega, by omega⟩, ?_⟩
       intro l34 n35
       intro ⟨e0, e1⟩
       have e0 := e0.symm; subst e0
       have e1 := e1.symm; subst e1
       refine ⟨fun h => by omega, ?_⟩
       intro h41
       refine ⟨⟨by omega, by omega, by omega, by omega⟩, ?_, fun h => absurd h (by simp)⟩
       intro _
       refine ⟨by omega, by omega, by omega, by omega, ?_, ?_⟩
       ·refine ⟨?_, ?_, by omega, by omega⟩
        ·simp only [mk, marks_len]; omega
        ·simp only [mk, marks_len]; omega
       ·intro n36
        intro h; simp only [mk, marks_len, and_self, if_true] at h; have h := h.symm; subst h
        refine ⟨fun h => by omega, ?_⟩
        intro h44
        refine ⟨fun h => by omega, ?_⟩
        intro h45
        refine ⟨⟨by omega, by omega⟩, ?_⟩
        intro l37 l38
        refine ⟨?_, trivial⟩
        intro ⟨e0, e1, _⟩
        have e0 := e0.symm; subst e0
        have e1 := e1.symm; subst e1
        refine ⟨by omega, ?_⟩
        intro l39
        intro e0
        have e0 := e0.symm; subst e0
        refine ⟨⟨by omega, by omega, by omega⟩, ?_⟩
        intro l40 l41
        refine ⟨?_, trivial, ?_⟩
        ·refine ⟨?_, trivial⟩
         intro F48
         exact absurd (det F48 F30) (by simp)
        ·intro F49
         obtain ⟨-, u, v, -⟩ := det F49 F30
         have u := u.symm; have v := v.symm; subst u v; clear F49
         refine ⟨⟨by omega, by omega, by omega, by omega⟩, ?_, fun h => absurd h (by simp)⟩
         intro _
         refine ⟨?_, ?_⟩
         ·refine ⟨?_, ?_, by omega, by omega⟩
          ·simp only [mk, marks_len]; omega
          ·simp only [mk, marks_len]; omega
         ·intro n42
          intro h; simp only [mk, marks_len, and_self, if_true] at h; have h := h.symm; subst h
          refine ⟨fun h => by omega, ?_⟩
          intro h52
          exact ⟨fun h => by omega, fun _ => rfl⟩
  ·intro l43
   intro h53
   refine ⟨fun _ => rfl, ?_⟩
   intro h54
   refine ⟨⟨by omega, by omega, by omega, by omega⟩, ?_⟩
   intro n44
   intro h55
   refine ⟨fun _ => rfl, ?_⟩
   intro h56
   refine ⟨⟨by omega, by omega⟩, ?_⟩
   intro l45 l46
   refine ⟨trivial, ?_⟩
   intro ⟨e0, e1, _⟩
   have e0 := e0.symm; subst e0
   have e1 := e1.symm; subst e1
   refine ⟨by omega, ?_⟩
   intro l47
   intro e0
   have e0 := e0.symm; subst e0
   refine ⟨⟨by omega, by omega, by omega⟩, ?_⟩
   intro l48 l49
   refine ⟨?_, ?_, ?_⟩
   ·refine ⟨?_, trivial⟩
    intro F59
    have g := bd F59
    refine ⟨⟨by omega, by omega⟩, ?_⟩
    intro l50 l51
    refine ⟨trivial, ?_⟩
    intro ⟨e0, e1, _⟩
    have e0 := e0.symm; subst e0
    have e1 := e1.symm; subst e1
    refine ⟨by omega, ?_⟩
    intro l52
    intro e0
    have e0 := e0.symm; subst e0
    refine ⟨⟨by omega, by omega, by omega⟩, ?_⟩
    intro l53 l54
    refine ⟨?_, ?_, ?_⟩
    ·refine ⟨?_, trivial⟩
     intro F62
     obtain ⟨-, u, v, -⟩ := det F62 F59
     have u := u.symm; have v := v.symm; subst u v; clear F62
     refine ⟨⟨by omega, by omega, by omega, by omega⟩, ?_, fun h => absurd h (by simp)⟩
     intro _
     refine ⟨?_, ⟨by omega, by omega⟩, ?_⟩
     ·exact ⟨l0, l1, false, rfl, rfl, rfl⟩
     ·intro l55 l56
      refine ⟨trivial, ?_⟩
      intro ⟨e0, e1, _⟩
      have e0 := e0.symm; subst e0
      have e1 := e1.symm; subst e1
      refine ⟨?_, ⟨by omega, by omega, by omega, by omega⟩, ?_, fun h => absurd h (by simp)⟩
      ·exact ⟨true, by simp⟩
      ·intro _
       refine ⟨by omega, ?_⟩
       intro l57
       intro e0
       have e0 := e0.symm; subst e0
       refine ⟨⟨by omega, by omega⟩, ?_, fun h => absurd h (by simp)⟩
       intro _
       refine ⟨by omega, by omega, by omega, by omega, ⟨by omega, by omega, by omega⟩, ?_⟩
       intro l58 n59
       intro ⟨e0, e1⟩
       have e0 := e0.symm; subst e0
       have e1 := e1.symm; subst e1
       refine ⟨fun h => by omega, ?_⟩
       intro h69
       refine ⟨⟨by omega, by omega, by omega, by omega⟩, ?_, fun h => absurd h (by simp)⟩
       intro _
       refine ⟨by omega, by omega, by omega, by omega, ?_, ?_⟩
       ·refine ⟨?_, ?_, by omega, by omega⟩
        ·simp only [mk, marks_len]; omega
        ·simp only [mk, marks_len]; omega
       ·intro n60
        intro h; simp only [mk, marks_len, and_self, if_true] at h; have h := h.symm; subst h
        refine ⟨fun h => by omega, ?_⟩
        intro h72
        refine ⟨fun h => by omega, ?_⟩
        intro h73
        refine ⟨⟨by omega, by omega⟩, ?_⟩
        intro l61 l62
        refine ⟨trivial, ?_⟩
        intro ⟨e0, e1, _⟩
        have e0 := e0.symm; subst e0
        have e1 := e1.symm; subst e1
        refine ⟨by omega, ?_⟩
        intro l63
        intro e0
        have e0 := e0.symm; subst e0
        refine ⟨⟨by omega, by omega, by omega⟩, ?_⟩
        intro l64 l65
        refine ⟨?_, ?_, ?_⟩
        ·refine ⟨?_, trivial⟩
         intro F76
         obtain ⟨-, u, v, -⟩ := det F76 F59
         have u := u.symm; have v := v.symm; subst u v; clear F76
         refine ⟨⟨by omega, by omega, by omega, by omega⟩, ?_, fun h => absurd h (by simp)⟩
         intro _
         refine ⟨?_, ?_⟩
         ·refine ⟨?_, ?_, by omega, by omega⟩
          ·simp only [mk, marks_len]; omega
          ·simp only [mk, marks_len]; omega
         ·intro n66
          intro h; simp only [mk, marks_len, and_self, if_true] at h; have h := h.symm; subst h
          refine ⟨fun h => by omega, ?_⟩
          intro h79
          exact ⟨fun h => by omega, fun _ => rfl⟩
        ·intro F80
         exact absurd (det F80 F59) (by simp)
        ·intro F81
         exact absurd (det F81 F59) (by simp)
    ·intro F82
     exact absurd (det F82 F59) (by simp)
    ·intro F83
     exact absurd (det F83 F59) (by simp)
   ·intro F84
    have g := bd F84
    refine ⟨⟨by omega, by omega⟩, ?_⟩
    intro l67 l68
    refine ⟨trivial, ?_⟩
    intro ⟨e0, e1, _⟩
    have e0 := e0.symm; subst e0
    have e1 := e1.symm; subst e1
    refine ⟨by omega, ?_⟩
    intro l69
    intro e0
    have e0 := e0.symm; subst e0
    refine ⟨⟨by omega, by omega, by omega⟩, ?_⟩
    intro l70 l71
    refine ⟨?_, ?_, ?_⟩
    ·refine ⟨?_, trivial⟩
     intro F87
     exact absurd (det F87 F84) (by simp)
    ·intro F88
     obtain ⟨-, u, v, -⟩ := det F88 F84
     have u := u.symm; have v := v.symm; subst u v; clear F88
     refine ⟨⟨by omega, by omega, by omega, by omega⟩, ?_, fun h => absurd h (by simp)⟩
     intro _
     refine ⟨?_, ⟨by omega, by omega⟩, ?_⟩
     ·exact ⟨l0, l1, false, rfl, rfl, rfl⟩
     ·intro l72 l73
      refine ⟨trivial, ?_⟩
      intro ⟨e0, e1, _⟩
      have e0 := e0.symm; subst e0
      have e1 := e1.symm; subst e1
      refine ⟨?_, ⟨by omega, by omega, by omega, by omega⟩, ?_, fun h => absurd h (by simp)⟩
      ·exact ⟨true, by simp⟩
      ·intro _
       refine ⟨by omega, ?_⟩
       intro l74
       intro e0
       have e0 := e0.symm; subst e0
       refine ⟨⟨by omega, by omega⟩, ?_, fun h => absurd h (by simp)⟩
       intro _
       refine ⟨by omega, by omega, by omega, by omega, ⟨by omega, by omega, by omega⟩, ?_⟩
       intro l75 n76
       intro ⟨e0, e1⟩
       have e0 := e0.symm; subst e0
       have e1 := e1.symm; subst e1
       refine ⟨fun h => by omega, ?_⟩
       intro h95
       refine ⟨⟨by omega, by omega, by omega, by omega⟩, ?_, fun h => absurd h (by simp)⟩
       intro _
       refine ⟨by omega, by omega, by omega, by omega, ?_, ?_⟩
       ·refine ⟨?_, ?_, by omega, by omega⟩
        ·simp only [mk, marks_len]; omega
        ·simp only [mk, marks_len]; omega
       ·intro n77
        intro h; simp only [mk, marks_len, and_self, if_true] at h; have h := h.symm; subst h
        refine ⟨fun h => by omega, ?_⟩
        intro h98
        refine ⟨fun h => by omega, ?_⟩
        intro h99
        refine ⟨⟨by omega, by omega⟩, ?_⟩
        intro l78 l79
        refine ⟨trivial, ?_⟩
        intro ⟨e0, e1, _⟩
        have e0 := e0.symm; subst e0
        have e1 := e1.symm; subst e1
        refine ⟨by omega, ?_⟩
        intro l80
        intro e0
        have e0 := e0.symm; subst e0
        refine ⟨⟨by omega, by omega, by omega⟩, ?_⟩
        intro l81 l82
        refine ⟨?_, ?_, ?_⟩
        ·refine ⟨?_, trivial⟩
         intro F102
         exact absurd (det F102 F84) (by simp)
        ·intro F103
         obtain ⟨-, u, v, -⟩ := det F103 F84
         have u := u.symm; have v := v.symm; subst u v; clear F103
         refine ⟨⟨by omega, by omega, by omega, by omega⟩, ?_, fun h => absurd h (by simp)⟩
         intro _
         refine ⟨?_, ?_⟩
         ·refine ⟨?_, ?_, by omega, by omega⟩
          ·simp only [mk, marks_len]; omega
          ·simp only [mk, marks_len]; omega
         ·intro n83
          intro h; simp only [mk, marks_len, and_self, if_true] at h; have h := h.symm; subst h
          refine ⟨fun h => by omega, ?_⟩
          intro h106
          exact ⟨fun h => by omega, fun _ => rfl⟩
        ·intro F107
         exact absurd (det F107 F84) (by simp)
    ·intro F108
     exact absurd (det F108 F84) (by simp)
   ·intro F109
    have g := bd F109
    refine ⟨⟨by omega, by omega⟩, ?_⟩
    intro l84 l85
    refine ⟨trivial, ?_⟩
    intro ⟨e0, e1, _⟩
    have e0 := e0.symm; subst e0
    have e1 := e1.symm; subst e1
    refine ⟨by omega, ?_⟩
    intro l86
    intro e0
    have e0 := e0.symm; subst e0
    refine ⟨⟨by omega, by omega, by omega⟩, ?_⟩
    intro l87 l88
    refine ⟨?_, ?_, ?_⟩
    ·refine ⟨?_, trivial⟩
     intro F112
     exact absurd (det F112 F109) (by simp)
    ·intro F113
     exact absurd (det F113 F109) (by simp)
    ·intro F114
     obtain ⟨-, u, v, -⟩ := det F114 F109
     have u := u.symm; have v := v.symm; subst u v; clear F114
     refine ⟨⟨by omega, by omega, by omega, by omega⟩, ?_, fun h => absurd h (by simp)⟩
     intro _
     refine ⟨?_, ⟨by omega, by omega⟩, ?_⟩
     ·exact ⟨l0, l1, false, rfl, rfl, rfl⟩
     ·intro l89 l90
      refine ⟨trivial, ?_⟩
      intro ⟨e0, e1, _⟩
      have e0 := e0.symm; subst e0
      have e1 := e1.symm; subst e1
      refine ⟨?_, ⟨by omega, by omega, by omega, by omega⟩, ?_, fun h => absurd h (by simp)⟩
      ·exact ⟨true, by simp⟩
      ·intro _
       refine ⟨by omega, ?_⟩
       intro l91
       intro e0
       have e0 := e0.symm; subst e0
       refine ⟨⟨by omega, by omega⟩, ?_, fun h => absurd h (by simp)⟩
       intro _
       refine ⟨by omega, by omega, by omega, by omega, ⟨by omega, by omega, by omega⟩, ?_⟩
       intro l92 n93
       intro ⟨e0, e1⟩
       have e0 := e0.symm; subst e0
       have e1 := e1.symm; subst e1
       refine ⟨fun h => by omega, ?_⟩
       intro h121
       refine ⟨⟨by omega, by omega, by omega, by omega⟩, ?_, fun h => absurd h (by simp)⟩
       intro _
       refine ⟨by omega, by omega, by omega, by omega, ?_, ?_⟩
       ·refine ⟨?_, ?_, by omega, by omega⟩
        ·simp only [mk, marks_len]; omega
        ·simp only [mk, marks_len]; omega
       ·intro n94
        intro h; simp only [mk, marks_len, and_self, if_true] at h; have h := h.symm; subst h
        refine ⟨fun h => by omega, ?_⟩
        intro h124
        refine ⟨fun h => by omega, ?_⟩
        intro h125
        refine ⟨⟨by omega, by omega⟩, ?_⟩
        intro l95 l96
        refine ⟨trivial, ?_⟩
        intro ⟨e0, e1, _⟩
        have e0 := e0.symm; subst e0
        have e1 := e1.symm; subst e1
        refine ⟨by omega, ?_⟩
        intro l97
        intro e0
        have e0 := e0.symm; subst e0
        refine ⟨⟨by omega, by omega, by omega⟩, ?_⟩
        intro l98 l99
        refine ⟨?_, ?_, ?_⟩
        ·refine ⟨?_, trivial⟩
         intro F128
         exact absurd (det F128 F109) (by simp)
        ·intro F129
         exact absurd (det F129 F109) (by simp)
        ·intro F130
         obtain ⟨-, u, v, -⟩ := det F130 F109
         have u := u.symm; have v := v.symm; subst u v; clear F130
         refine ⟨⟨by omega, by omega, by omega, by omega⟩, ?_, fun h => absurd h (by simp)⟩
         intro _
         refine ⟨?_, ?_⟩
         ·refine ⟨?_, ?_, by omega, by omega⟩
          ·simp only [mk, marks_len]; omega
          ·simp only [mk, marks_len]; omega
         ·intro n100
          intro h; simp only [mk, marks_len, and_self, if_true] at h; have h := h.symm; subst h
          refine ⟨fun h => by omega, ?_⟩
          intro h133
          exact ⟨fun h => by omega, fun _ => rfl⟩
def S_l_FnExactStreamFeed : FSpec where
  args := [.agg [.sl .int, .sl .int, .bool], .sc (.sl .int)]
  outs := [.sc .bool]
  pre := fun a => match a with
    | [.agg [.sl .int w, .sl .int t, .bool bad], .sc (.sl .int aBytes)] => (((w).length : Nat) : Int) ≤ 9223372036854775807 ∧ (((t).length : Nat) : Int) ≤ 9223372036854775807 ∧ (((aBytes).length : Nat) : Int) ≤ 9223372036854775807
    | _ => False
  post := fun a r => match a, r with
    | [.agg [.sl .int w, .sl .int t, .bool bad], .sc (.sl .int aBytes)], [.sc (.bool r)] => r = true
    | _, _ => False
  kept := false
theorem m_l_FnExactStreamFeed : Meets Try.prog 5 S_l_FnExactStreamFeed :=
  meets tok mixed Try.func5 (by kernel_rfl) (l := [(10, S_l_eqIntS), (13, S_l_markIntS), (16, S_l_toIntS), (19, S_l_szStream), (20, S_s_StreamFeed), (21, S_l_toStream), (22, S_i_StreamFeed), (23, S_l_eqStream), (24, S_l_markStream), (25, S_l_heldStream)]) ⟨m_l_eqIntS, m_l_markIntS, m_l_toIntS, m_l_szStream, m_s_StreamFeed, m_l_toStream, m_i_StreamFeed, m_l_eqStream, m_l_markStream, m_l_heldStream, trivial⟩ (ann := []) v_l_FnExactStreamFeed (by kernel_rfl)
theorem a_l_FnExactStreamFeed : LawOf Try.prog Try.f5.params.toList S_l_FnExactStreamFeed where
  args := by kernel_rfl
  outs := rfl
  pre := AKs.all_iff.1 (show AKs.all S_l_FnExactStreamFeed.args (fun ds => bnds ds → S_l_FnExactStreamFeed.pre ds) from fun y4 => fun y3 => ⟨fun y1 => fun h => ⟨h.1.1, h.1.2.1, h.2.1⟩, fun y1 => fun h => ⟨h.1.1, h.1.2.1, h.2.1⟩⟩)
  post := AKs.all_iff.1 (show AKs.all S_l_FnExactStreamFeed.args (fun ds => ∀ b, S_l_FnExactStreamFeed.post ds [.sc (.bool b)] → b = true) from fun y4 => fun y3 => ⟨fun y1 => fun _ h => h, fun y1 => fun _ h => h⟩)
set_option maxRecDepth 100000 in
theorem lifted_l_FnExactStreamFeed (os : Os) (started : os.Started) (H : Type) (enc : TypeId × Value → H) :
    ReturnsInHanded {} Try.checked os 5 .any (Rows.fnExactStreamFeedSpec.pre6 enc Try.prog Try.f5 Rows.fnExactStreamFeedRow.domain false) (Rows.fnExactStreamFeedSpec.post enc Try.prog Try.f5 false true false false) :=
  law_lifted (C := Try.checked) (F := S_l_FnExactStreamFeed) (by kernel_rfl) started (by kernel_rfl) Try.func5
    (ChangeSpec.witness6 (enc := enc) (C := Try.checked) false ⟨#[], #[.agg #[.slice none 0 0, .slice none 0 0, .bool false], .slice none 0 0], []⟩ 8 (by kernel_rfl) (by kernel_rfl) (by kernel_rfl) (by kernel_rfl))
    m_l_FnExactStreamFeed a_l_FnExactStreamFeed (by kernel_rfl) (of_decide_eq_true (by kernel_rfl)) rfl (fun ds h => by match ds, h with | [d0, d1], _ => rfl) (by kernel_rfl) Try.underlying4 (by kernel_rfl)
theorem facts_FnExactStreamFeed : ∀ P : Program, P = Try.prog → P.initOrder.toList = ioNums.map Char.ofNat → joinedFacts P 5 Try.f5 Rows.fnExactStreamFeedSpec Rows.fnExactStreamFeedRow = true := by
  intro P hP h
  have h1 := io1 P hP h
  have h2 := io2 P hP h
  have h3 := io3 P hP h
  unfold joinedFacts
  rw [h1, h2, h3]
  subst hP
  show (_ : Bool) = true
  kernel_rfl
theorem proved_FnExactStreamFeed : Rows.FnExactStreamFeedSaid :=
  OpenClaim.holds_of_wide 5 Try.f5 rfl rfl rfl rfl rfl rfl rfl ⟨rfl, rfl, rfl, rfl, rfl⟩ rfl rfl rfl rfl rfl (by kernel_rfl) Try.func5 (facts_FnExactStreamFeed _ rfl ioL)
    (of_decide_eq_true (by kernel_rfl)) (by unfold Func.isWrapper; first | (rw [if_pos (by decide +kernel)]; kernel_rfl) | (rw [if_neg (by decide +kernel)]; exact ⟨rfl, rfl⟩))
    (fun os started H enc _ => lifted_l_FnExactStreamFeed os started H enc)
end Go.Proofs.Ytkkgpcbkkahieaa
