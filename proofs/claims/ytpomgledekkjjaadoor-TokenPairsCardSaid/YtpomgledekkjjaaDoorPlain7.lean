/-
  PLAIN FUNCTIONS of chapter 2, seventh part: whether two texts have the same tokens.
-/
import Derived.Test.YtpomgledekkjjaaDoorPlain3
namespace Mist
def faceOf (t : Tok) : Nat × Bs := (t.kind, t.text)
/-- Whether tokens are the same, but for places. -/
def alikeB (l m : List Tok) : Bool := decide (l.map faceOf = m.map faceOf)
def sameOf (a b : Bs) : Bool × Nat :=
  if (Mist.read a).2.2 ≠ 0 then (false, (Mist.read a).2.2) else if (Mist.read b).2.2 ≠ 0 then (false, (Mist.read b).2.2) else (alikeB (Mist.read a).1 (Mist.read b).1, 0)
theorem sameOf_left (a b : Bs) (h : ¬ (Mist.read a).2.2 = 0) : sameOf a b = (false, (Mist.read a).2.2) := by unfold sameOf; rw [if_pos h]
theorem sameOf_right (a b : Bs) (h : (Mist.read a).2.2 = 0) (h2 : ¬ (Mist.read b).2.2 = 0) : sameOf a b = (false, (Mist.read b).2.2) := by unfold sameOf; rw [if_neg (by simpa using h), if_pos h2]
theorem sameOf_both (a b : Bs) (h : (Mist.read a).2.2 = 0) (h2 : (Mist.read b).2.2 = 0) : sameOf a b = (alikeB (Mist.read a).1 (Mist.read b).1, 0) := by unfold sameOf; rw [if_neg (by simpa using h), if_neg (by simpa using h2)]
theorem alike_len (l m : List Tok) (h : ¬ l.length = m.length) : alikeB l m = false := by
  unfold alikeB
  rw [decide_eq_false_iff_not]
  intro e
  have := congrArg List.length e
  simp at this
  exact h this
theorem alike_at (l m : List Tok) (k : Nat) (hl : k < l.length) (hm : k < m.length) (h : faceOf (tg l k) ≠ faceOf (tg m k)) : alikeB l m = false := by
  unfold alikeB
  rw [decide_eq_false_iff_not]
  intro e
  have := congrArg (fun x => x[k]?) e
  simp only [List.getElem?_map, List.getElem?_eq_getElem hl, List.getElem?_eq_getElem hm, Option.map_some, Option.some.injEq] at this
  rw [tg_eq l k hl, tg_eq m k hm] at h
  exact h this
theorem alike_all (l m : List Tok) (hl : l.length = m.length) (h : ∀ k, k < l.length → faceOf (tg l k) = faceOf (tg m k)) : alikeB l m = true := by
  unfold alikeB
  rw [decide_eq_true_eq]
  apply List.ext_getElem
  · simp [hl]
  · intro i h1 h2
    simp only [List.length_map] at h1 h2
    have := h i h1
    rw [tg_eq l i h1, tg_eq m i h2] at this
    simpa using this
theorem face_eq (t u : Tok) : faceOf t = faceOf u ↔ t.kind = u.kind ∧ t.text = u.text := by simp [faceOf]
end Mist
