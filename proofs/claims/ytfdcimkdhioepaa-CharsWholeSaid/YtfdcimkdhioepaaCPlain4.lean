/-
  PLAIN FUNCTIONS of chapter 1: finding, showing, counting lines.
-/
import Derived.Test.YtfdcimkdhioepaaCPlain2
import Derived.Lib.Bytealg
import Derived.Lib.Strings
import Derived.Lib.Repeat
namespace Mist
open Go
def foundUpTo (s part : Bs) (n : Nat) : List Nat := (List.range n).filter fun i => part.isPrefixOf (s.drop i)
def findOf (s part : Bs) : List Nat × Nat := if err2 s part ≠ 0 then ([], err2 s part) else if part = [] then ([], 2) else (foundUpTo s part s.length, 0)
theorem found_yes (s part : Bs) (n : Nat) (h : part.isPrefixOf (s.drop n) = true) : foundUpTo s part (n + 1) = foundUpTo s part n ++ [n] := by
  unfold foundUpTo; rw [List.range_succ, List.filter_append]; simp [h]
theorem found_no (s part : Bs) (n : Nat) (h : part.isPrefixOf (s.drop n) = false) : foundUpTo s part (n + 1) = foundUpTo s part n := by
  unfold foundUpTo; rw [List.range_succ, List.filter_append]; simp [h]
theorem found_len (s part : Bs) (n : Nat) : (foundUpTo s part n).length ≤ n := by
  unfold foundUpTo
  have := List.length_filter_le (fun i => part.isPrefixOf (s.drop i)) (List.range n)
  simpa using this
theorem findOf_bad (s part : Bs) (h : err2 s part ≠ 0) : findOf s part = ([], err2 s part) := by unfold findOf; rw [if_pos h]
theorem findOf_nil (s part : Bs) (h : err2 s part = 0) (k : part = []) : findOf s part = ([], 2) := by unfold findOf; rw [if_neg (by simpa using h), if_pos k]
theorem findOf_ok (s part : Bs) (h : err2 s part = 0) (k : part ≠ []) : findOf s part = (foundUpTo s part s.length, 0) := by unfold findOf; rw [if_neg (by simpa using h), if_neg k]
theorem linesN_bad (s : Bs) (h : (check s).2 ≠ 0) : linesN s = (0, (check s).2) := by unfold linesN; rw [if_pos h]
theorem linesN_ok (s : Bs) (h : (check s).2 = 0) : linesN s = ((linesOf s).length, 0) := by unfold linesN; rw [if_neg (by simpa using h)]
theorem linesFrom_count : ∀ (s : Bs) (f i : Nat), (linesFrom f i s).length = Lib.countByte s 10 + 1
  | [], _, _ => by simp [linesFrom, Lib.countByte]
  | b :: r, f, i => by
    rw [linesFrom]
    split
    · rename_i h
      subst h
      rw [List.length_cons, linesFrom_count r]
      simp [Lib.countByte]
    · rename_i h
      rw [linesFrom_count r]
      simp [Lib.countByte, h]
theorem aroundGo_from (a : Int) : ∀ (s : Bs) (f i n : Nat), (f : Int) ≤ a → 0 ≤ a → a ≤ ((i + s.length : Nat) : Int) → ((aroundGo n a (linesFrom f i s)).1.1 : Int) ≤ a
  | [], f, i, n, h, h0, hl => by
    rw [linesFrom, aroundGo]
    split
    · exact h
    · rw [aroundGo]; exact h0
  | b :: r, f, i, n, h, h0, hl => by
    rw [linesFrom]
    split
    · rw [aroundGo]
      split
      · exact h
      · rename_i hi
        exact aroundGo_from a r (i + 1) (i + 1) (n + 1) (by simp only at hi; omega) h0 (by simp only [List.length_cons] at hl; omega)
    · exact aroundGo_from a r f (i + 1) n h h0 (by simp only [List.length_cons] at hl; omega)
theorem around_from (s : Bs) (a : Int) (h : 0 ≤ a ∧ a ≤ (s.length : Int)) : ((aroundOf s a).1.1 : Int) ≤ a := aroundGo_from a s 0 0 0 (by omega) h.1 (by omega)
theorem offErr_in (s : Bs) (a : Int) (hc : offErr s a = 0) : (check s).2 = 0 ∧ 0 ≤ a ∧ a ≤ (s.length : Int) := by
  unfold offErr at hc
  split at hc
  · contradiction
  · rename_i h
    split at hc
    · rename_i h2; exact ⟨by omega, h2⟩
    · cases hc
def showOf (s : Bs) (a : Int) : Bs × Nat :=
  if offErr s a ≠ 0 then ([], offErr s a) else (cutOf s (aroundOf s a).1 ++ [10] ++ List.replicate (a - ((aroundOf s a).1.1 : Int)).toNat 32 ++ [94], 0)
theorem showOf_bad (s : Bs) (a : Int) (h : offErr s a ≠ 0) : showOf s a = ([], offErr s a) := by unfold showOf; rw [if_pos h]
theorem showOf_ok (s : Bs) (a : Int) (h : offErr s a = 0) : showOf s a = (cutOf s (aroundOf s a).1 ++ [10] ++ List.replicate (a - ((aroundOf s a).1.1 : Int)).toNat 32 ++ [94], 0) := by unfold showOf; rw [if_neg (by simpa using h)]
end Mist
