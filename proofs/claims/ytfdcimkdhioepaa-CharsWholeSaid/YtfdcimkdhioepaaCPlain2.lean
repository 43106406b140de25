/-
  PLAIN FUNCTIONS of chapter 1: places, offsets, lines, patches.
-/
import Derived.Test.YtfdcimkdhioepaaCPlain1
namespace Mist
def offErr (s : Bs) (a : Int) : Nat := if (check s).2 ≠ 0 then (check s).2 else if 0 ≤ a ∧ a ≤ (s.length : Int) then 0 else 3
def placeOf (s : Bs) (a : Int) : (Int × Int) × Nat := if offErr s a ≠ 0 then ((0, 0), offErr s a) else ((((aroundOf s a).2 : Int), a - ((aroundOf s a).1.1 : Int) + 1), 0)
def offsetOf (s : Bs) (line col : Int) : Int × Nat :=
  if (numberedOf s line).2 ≠ 0 then (0, (numberedOf s line).2)
  else if 1 ≤ col ∧ col ≤ ((numberedOf s line).1.2 : Int) - ((numberedOf s line).1.1 : Int) + 1 then (((numberedOf s line).1.1 : Int) + col - 1, 0) else (0, 3)
def cutOf (s : Bs) (p : Nat × Nat) : Bs := (s.take p.2).drop p.1
def lineOf (s : Bs) (k : Int) : Bs × Nat := if (numberedOf s k).2 ≠ 0 then ([], (numberedOf s k).2) else (cutOf s (numberedOf s k).1, 0)
def linesN (s : Bs) : Nat × Nat := if (check s).2 ≠ 0 then (0, (check s).2) else ((linesOf s).length, 0)
/-- The first error of two texts. -/
def err2 (s t : Bs) : Nat := if (check s).2 ≠ 0 then (check s).2 else (check t).2
def patchErr (s : Bs) (a many : Int) (put : Bs) : Nat :=
  if err2 s put ≠ 0 then err2 s put else if (0 ≤ a ∧ a ≤ (s.length : Int)) ∧ (0 ≤ many ∧ many ≤ (s.length : Int) - a) then (if 2000 < (s.length : Int) + ((put.length : Int) - many) then 5 else 0) else 3
def spliceOf (s : Bs) (a many : Int) (put : Bs) : Bs × Nat := if patchErr s a many put ≠ 0 then ([], patchErr s a many put) else (s.take a.toNat ++ put ++ s.drop (a + many).toNat, 0)
def movedOf (s : Bs) (a many : Int) (put : Bs) (p : Int) : Int × Nat :=
  if patchErr s a many put ≠ 0 then (0, patchErr s a many put) else if ¬ (0 ≤ p ∧ p ≤ (s.length : Int)) then (0, 3) else if p ≤ a then (p, 0) else if a + many ≤ p then (p + ((put.length : Int) - many), 0) else (a + (put.length : Int), 0)
theorem linesFrom_mem : ∀ (s : Bs) (f i : Nat), f ≤ i → ∀ p ∈ linesFrom f i s, p.1 ≤ p.2 ∧ p.2 ≤ i + s.length
  | [], f, i, h, p, hp => by
    simp only [linesFrom, List.mem_singleton] at hp
    subst hp; exact ⟨h, by simp⟩
  | b :: r, f, i, h, p, hp => by
    rw [linesFrom] at hp
    split at hp
    · rcases List.mem_cons.1 hp with rfl | hp
      · exact ⟨h, by simp⟩
      · have := linesFrom_mem r (i + 1) (i + 1) (Nat.le_refl _) p hp
        simp only [List.length_cons]; omega
    · have := linesFrom_mem r f (i + 1) (by omega) p hp
      simp only [List.length_cons]; omega
theorem linesOf_mem (s : Bs) : ∀ p ∈ linesOf s, p.1 ≤ p.2 ∧ p.2 ≤ s.length := fun p hp => by
  have := linesFrom_mem s 0 0 (Nat.le_refl _) p hp
  omega
theorem numberedOf_in (s : Bs) (k : Int) : (numberedOf s k).1.1 ≤ (numberedOf s k).1.2 ∧ (numberedOf s k).1.2 ≤ s.length := by
  unfold numberedOf
  split
  · simp
  · split
    · rename_i h
      refine linesOf_mem s _ ?_
      rw [List.getD_eq_getElem?_getD, List.getElem?_eq_getElem (by omega)]
      exact List.getElem_mem _
    · simp
theorem aroundGo_in (a : Int) (m : Nat) : ∀ (l : List (Nat × Nat)) (n : Nat), (∀ p ∈ l, p.1 ≤ p.2 ∧ p.2 ≤ m) → (aroundGo n a l).1.1 ≤ (aroundGo n a l).1.2 ∧ (aroundGo n a l).1.2 ≤ m ∧ (aroundGo n a l).2 ≤ n + l.length
  | [], n, _ => by simp [aroundGo]
  | x :: r, n, h => by
    rw [aroundGo]
    split
    · have := h x (by simp); simp; omega
    · have := aroundGo_in a m r (n + 1) (fun p hp => h p (by simp [hp])); simp; omega
theorem linesFrom_len : ∀ (s : Bs) (f i : Nat), (linesFrom f i s).length ≤ s.length + 1
  | [], _, _ => by simp [linesFrom]
  | b :: r, f, i => by
    rw [linesFrom]
    split
    · have := linesFrom_len r (i + 1) (i + 1); simp; omega
    · have := linesFrom_len r f (i + 1); simp; omega
theorem linesOf_len (s : Bs) : (linesOf s).length ≤ s.length + 1 := linesFrom_len s 0 0
theorem aroundOf_in (s : Bs) (a : Int) : (aroundOf s a).1.1 ≤ (aroundOf s a).1.2 ∧ (aroundOf s a).1.2 ≤ s.length ∧ (aroundOf s a).2 ≤ s.length + 1 := by
  have h1 := aroundGo_in a s.length (linesOf s) 0 (linesOf_mem s)
  have h2 := linesOf_len s
  unfold aroundOf
  omega
theorem check_le (s : Bs) : (check s).2 ≤ 5 := by
  unfold check
  split
  · simp
  · split <;> simp
end Mist
