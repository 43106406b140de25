/-
  PLAIN FUNCTIONS of chapter 2, sixth part: gluing.
-/
import Derived.Test.YtpomgledekkjjaaDoorPlain5
namespace Mist
def gluedOf (a b : Bs) : Bool × Nat := if kind a = 0 ∨ kind b = 0 then (false, 4) else (glue a b, 0)
theorem kind_first (s : Bs) (h : kind s ≠ 0) : (first s).2 = s ∧ (first s).1 = kind s := by
  unfold kind at h ⊢
  split at h
  · rename_i e; rw [if_pos e]; exact ⟨e, rfl⟩
  · exact absurd rfl h
theorem glue_cases (a b : Bs) (ha : kind a ≠ 0) :
    ((((first (a ++ b)).1 : Int) == 0) = true ∧ glue a b = true) ∨
    ((((first (a ++ b)).1 : Int) == 0) = false ∧ ((first (a ++ b)).2 == a) = false ∧ glue a b = true) ∨
    ((((first (a ++ b)).1 : Int) == 0) = false ∧ ((first (a ++ b)).2 == a) = true ∧ glue a b = false) := by
  have hl := (kind_len a ha).2
  by_cases h : (first (a ++ b)).1 = 0
  · refine .inl ⟨by simp [h], ?_⟩
    have := first_zero _ h
    unfold glue
    rw [this]
    cases a with
    | nil => simp at hl
    | cons x r => rfl
  · have h' : (((first (a ++ b)).1 : Int) == 0) = false := by simp; omega
    cases e : ((first (a ++ b)).2 == a)
    · exact .inr (.inl ⟨h', rfl, by simp [glue, e]⟩)
    · exact .inr (.inr ⟨h', rfl, by simp [glue, e]⟩)
theorem gluedOf_bad (a b : Bs) (h : kind a = 0 ∨ kind b = 0) : gluedOf a b = (false, 4) := by rw [gluedOf, if_pos h]
theorem gluedOf_ok (a b : Bs) (h : kind a ≠ 0) (k : kind b ≠ 0) : gluedOf a b = (glue a b, 0) := by rw [gluedOf, if_neg (by simp [h, k])]
theorem kindErr_zero (s : Bs) : kindErr s = 0 ↔ kind s ≠ 0 := by unfold kindErr; split <;> simp_all
theorem kindErr_four (s : Bs) (h : kind s = 0) : kindErr s = 4 := by unfold kindErr; rw [if_pos h]
end Mist
