/-
  Entries whose lists lie aside.
-/
import Derived.Test.YtkkgpcbkkahieaaAx3
import Derived.Test.YtkkgpcbkkahieaaM
set_option linter.unusedVariables false
set_option linter.unusedSimpArgs false
set_option linter.unusedSectionVars false

/-
  MY: entries whose lists lie aside.
-/
namespace Go.Mx
open Go.Ax

theorem nvs_app (a b : List E3) : nvs (a ++ b) = nvs a ++ nvs b := by simp [nvs]
theorem vls_app (a b : List E3) : vls (a ++ b) = vls a ++ vls b := by simp [vls]
theorem nls_app (a b : List E3) : nls (a ++ b) = nls a ++ nls b := by simp [nls]
theorem nvs_cons (x : E3) (b : List E3) : nvs (x :: b) = (x.1, x.2.1) :: nvs b := rfl
theorem vls_cons (x : E3) (b : List E3) : vls (x :: b) = (x.2.1, x.2.2) :: vls b := rfl
theorem nls_cons (x : E3) (b : List E3) : nls (x :: b) = (x.1, x.2.2) :: nls b := rfl
theorem nvs_length (a : List E3) : (nvs a).length = a.length := by simp [nvs]
theorem nls_length (a : List E3) : (nls a).length = a.length := by simp [nls]

theorem cat_is {α : Type} (a b : List α) : cat a b = a ++ b := by
  induction a with
  | nil => rfl
  | cons x a ih => simp only [cat, List.cons_append, ih]

theorem endE_app : ∀ (k : Int) (a b : List E3), endE k (a ++ b) = endE (endE k a) b
  | _, [], _ => rfl
  | k, x :: a, b => by simp only [List.cons_append, endE]; exact endE_app _ a b

theorem endE_ge : ∀ (k : Int) (a : List E3), k ≤ endE k a
  | _, [] => Int.le_refl _
  | k, x :: a => by
    have := endE_ge (k + 1 + (x.2.2.length : Int)) a
    simp only [endE]; omega

theorem markE_app : ∀ (k : Int) (a b : List E3), markE k (a ++ b) = markE k a ++ markE (endE k a) b
  | _, [], _ => rfl
  | k, x :: a, b => by simp only [List.cons_append, markE, endE]; rw [markE_app _ a b]

theorem markE_length : ∀ (k : Int) (a : List E3), (markE k a).length = a.length
  | _, [] => rfl
  | k, x :: a => by simp only [markE, List.length_cons]; rw [markE_length _ a]

theorem nls_markE : ∀ (k : Int) (e : List E3), nls (markE k e) = mrk k (nls e)
  | _, [] => rfl
  | k, x :: r => by
    simp only [markE, nls_cons, mrk]
    rw [nls_markE _ r, markL_eq]

theorem endE_eq : ∀ (k : Int) (e : List E3), endE k e = k + szE (nls e)
  | k, [] => by simp [endE, nls, szE, sumIn]
  | k, x :: r => by
    rw [endE, endE_eq _ r, nls_cons, szE_cons]; simp only; omega

theorem endE_len : ∀ (k : Int) (a : List E3), k + (a.length : Int) ≤ endE k a
  | k, [] => by simp [endE]
  | k, x :: a => by
    have := endE_len (k + 1 + (x.2.2.length : Int)) a
    simp only [endE, List.length_cons]; omega

end Go.Mx
