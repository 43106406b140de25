/-
  PLAIN FUNCTIONS of chapter 1: the lines of a text.
-/
import Derived.Test.YtfdcimkdhioepaaPlain
namespace Mist
/-- The lines from a place on, one having begun at f: from where to where each goes. -/
def linesFrom : Nat → Nat → Bs → List (Nat × Nat)
  | f, i, [] => [(f, i)]
  | f, i, b :: r => if b = 10 then (f, i) :: linesFrom (i + 1) (i + 1) r else linesFrom f (i + 1) r
def linesOf (s : Bs) : List (Nat × Nat) := linesFrom 0 0 s
theorem linesFrom_feed (s : Bs) (f k : Nat) (h : k < s.length) (e : gt s k = 10) : linesFrom f k (s.drop k) = (f, k) :: linesFrom (k + 1) (k + 1) (s.drop (k + 1)) := by
  rw [drop_gt s k h, linesFrom, if_pos e]
theorem linesFrom_other (s : Bs) (f k : Nat) (h : k < s.length) (e : gt s k ≠ 10) : linesFrom f k (s.drop k) = linesFrom f (k + 1) (s.drop (k + 1)) := by
  rw [drop_gt s k h, linesFrom, if_neg e]
theorem linesFrom_end (s : Bs) (f k : Nat) (h : s.length ≤ k) : linesFrom f k (s.drop k) = [(f, k)] := by
  rw [List.drop_eq_nil_of_le h]; rfl
/-- A line of a text. -/
abbrev LineIn (s : Bs) := { p : Nat × Nat // p.1 ≤ p.2 ∧ p.2 ≤ s.length }
def wid (l : List (Nat × Nat)) : Nat := l.foldl (fun n p => max n (p.2 - p.1)) 0
def widestOf (s : Bs) : Nat × Nat := if (check s).2 ≠ 0 then (0, (check s).2) else (wid (linesOf s), 0)
theorem wid_snoc (l : List (Nat × Nat)) (p : Nat × Nat) : wid (l ++ [p]) = max (wid l) (p.2 - p.1) := by simp [wid]
theorem widestOf_bad (s : Bs) (h : (check s).2 ≠ 0) : widestOf s = (0, (check s).2) := by unfold widestOf; rw [if_pos h]
theorem widestOf_ok (s : Bs) (h : (check s).2 = 0) : widestOf s = (wid (linesOf s), 0) := by unfold widestOf; rw [if_neg (by simpa using h)]
theorem wid_le {s : Bs} (l : List (LineIn s)) : wid (l.map (·.1)) ≤ s.length := by
  have : ∀ (l : List (LineIn s)) (n : Nat), n ≤ s.length → (l.map (·.1)).foldl (fun n p => max n (p.2 - p.1)) n ≤ s.length := by
    intro l
    induction l with
    | nil => intro n h; exact h
    | cons x r ih => intro n h; exact ih _ (by have := x.2.2; have := x.2.1; show max n (x.1.2 - x.1.1) ≤ _; omega)
  exact this l 0 (Nat.zero_le _)
/-- chars.around: the first line that ends at a place or behind it, and its number. -/
def aroundGo : Nat → Int → List (Nat × Nat) → (Nat × Nat) × Nat
  | n, _, [] => ((0, 0), n)
  | n, a, p :: r => if a ≤ (p.2 : Int) then (p, n + 1) else aroundGo (n + 1) a r
def aroundOf (s : Bs) (a : Int) : (Nat × Nat) × Nat := aroundGo 0 a (linesOf s)
theorem aroundGo_skip (a : Int) (l r : List (Nat × Nat)) : ∀ n, (∀ p ∈ l, ¬ a ≤ (p.2 : Int)) → aroundGo n a (l ++ r) = aroundGo (n + l.length) a r := by
  induction l with
  | nil => intro n _; rfl
  | cons x l ih =>
    intro n h
    rw [List.cons_append, aroundGo, if_neg (h x (by simp)), ih (n + 1) (fun p hp => h p (by simp [hp]))]
    rw [List.length_cons, show n + 1 + l.length = n + (l.length + 1) by omega]
theorem aroundOf_hit (s : Bs) (a : Int) (l : List (Nat × Nat)) (p : Nat × Nat) (h : ∀ p ∈ l, ¬ a ≤ (p.2 : Int)) (hp : a ≤ (p.2 : Int)) (hl : (l ++ [p]) <+: linesOf s) : aroundOf s a = (p, l.length + 1) := by
  obtain ⟨r, hr⟩ := hl
  unfold aroundOf
  rw [← hr, List.append_assoc, aroundGo_skip a l _ 0 h]
  rw [List.singleton_append, aroundGo, if_pos hp, Nat.zero_add]
theorem aroundOf_none (s : Bs) (a : Int) (h : ∀ p ∈ linesOf s, ¬ a ≤ (p.2 : Int)) : aroundOf s a = ((0, 0), (linesOf s).length) := by
  have := aroundGo_skip a (linesOf s) [] 0 h
  rw [List.append_nil, Nat.zero_add] at this
  exact this
/-- chars.numbered: the line with a number. -/
def numberedOf (s : Bs) (k : Int) : (Nat × Nat) × Nat :=
  if (check s).2 ≠ 0 then ((0, 0), (check s).2) else if 1 ≤ k ∧ k ≤ ((linesOf s).length : Int) then ((linesOf s).getD (k.toNat - 1) (0, 0), 0) else ((0, 0), 3)
theorem numberedOf_bad (s : Bs) (k : Int) (h : (check s).2 ≠ 0) : numberedOf s k = ((0, 0), (check s).2) := by unfold numberedOf; rw [if_pos h]
theorem numberedOf_hit (s : Bs) (l : List (Nat × Nat)) (p : Nat × Nat) (h : (check s).2 = 0) (hl : (l ++ [p]) <+: linesOf s) (k : Int) (hk : k = ((l.length + 1 : Nat) : Int)) : numberedOf s k = (p, 0) := by
  obtain ⟨r, hr⟩ := hl
  unfold numberedOf
  have hlen := congrArg List.length hr
  simp only [List.length_append, List.length_cons, List.length_nil] at hlen
  rw [if_neg (by simpa using h), if_pos ⟨by omega, by omega⟩, ← hr, hk]
  simp
theorem numberedOf_none (s : Bs) (k : Int) (h : (check s).2 = 0) (hk : ¬ (1 ≤ k ∧ k ≤ ((linesOf s).length : Int))) : numberedOf s k = ((0, 0), 3) := by
  unfold numberedOf; rw [if_neg (by simpa using h), if_neg hk]
end Mist
