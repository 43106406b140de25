/-
  PLAIN FUNCTIONS of chapter 2, second part: what is read.
-/
import Derived.Test.YtpomgledekkjjaaDoorPlain
namespace Mist
/-- Read on from a place behind a gap, with the tokens so far: the tokens, the place and the error. -/
def readFrom : Nat → Bs → Nat → List Tok → List Tok × Nat × Nat
  | 0, _, _, acc => (acc, 0, 0)
  | f + 1, l, a, acc =>
    if l.length ≤ a then (acc, 0, 0) else
    if (first (l.drop a)).1 = 0 then ([], a, 4)
    else if acc.length = 800 then ([], a, 5)
    else readFrom f l (a + (first (l.drop a)).2.length + skip (l.drop (a + (first (l.drop a)).2.length))) (acc ++ [⟨(first (l.drop a)).1, (first (l.drop a)).2, (a : Int)⟩])
def read (s : Bs) : List Tok × Nat × Nat :=
  if (check s).2 ≠ 0 then ([], (check s).1, (check s).2) else readFrom (s.length + 1) s (skip s) []
theorem signOf_len (s g : Bs) (h : signOf s = some g) : 0 < g.length ∧ g.length ≤ s.length := by
  have h1 := List.mem_of_find?_eq_some h
  have h2 : prefB g s = true := List.find?_some (p := fun g => prefB g s) h
  have : ∀ g ∈ signs, 0 < g.length := by decide
  exact ⟨this g h1, (List.isPrefixOf_iff_prefix.1 h2).length_le⟩
theorem while_pos (p : UInt8 → Bool) (s : Bs) (h0 : ¬ s.length = 0) (h : p (gt s 0) = true) : 0 < while_ p s := by
  cases s with
  | nil => simp at h0
  | cons b r =>
    have h2 : p b = true := h
    unfold while_; rw [List.takeWhile_cons_of_pos h2]; simp
theorem first_len (s : Bs) (h : (first s).1 ≠ 0) : 0 < (first s).2.length ∧ (first s).2.length ≤ s.length := by
  by_cases h0 : s.length = 0
  · rw [first_empty s h0] at h; exact absurd rfl h
  by_cases hs : smallB (gt s 0) = true
  · have hp := while_pos partB s h0 (by simp [partB, hs])
    have hl := while_le partB s
    by_cases hk : hasB keywords (s.take (while_ partB s)) = true
    · rw [first_kw s h0 hs hk]; simp; omega
    · by_cases hn : while_ partB s ≤ 12
      · rw [first_name s h0 hs hk hn]; simp; omega
      · rw [first_long s h0 hs hk hn] at h; exact absurd rfl h
  · by_cases hd : digitB (gt s 0) = true
    · have hp := while_pos digitB s h0 hd
      have hl := while_le digitB s
      by_cases hn : isNumber (s.take (while_ digitB s)) = true
      · rw [first_num s h0 hs hd hn]; simp; omega
      · rw [first_nonum s h0 hs hd hn] at h; exact absurd rfl h
    · cases hg : signOf s with
      | none => rw [first_none s h0 hs hd hg] at h; exact absurd rfl h
      | some g => rw [first_sign s h0 hs hd g hg]; exact signOf_len s g hg
theorem readFrom_end (f : Nat) (l : Bs) (a : Nat) (acc : List Tok) (h : l.length ≤ a) : readFrom (f + 1) l a acc = (acc, 0, 0) := by rw [readFrom, if_pos h]
theorem readFrom_none (f : Nat) (l : Bs) (a : Nat) (acc : List Tok) (h : ¬ l.length ≤ a) (k : (first (l.drop a)).1 = 0) : readFrom (f + 1) l a acc = ([], a, 4) := by rw [readFrom, if_neg h, if_pos k]
theorem readFrom_full (f : Nat) (l : Bs) (a : Nat) (acc : List Tok) (h : ¬ l.length ≤ a) (k : ¬ (first (l.drop a)).1 = 0) (c : acc.length = 800) : readFrom (f + 1) l a acc = ([], a, 5) := by rw [readFrom, if_neg h, if_neg k, if_pos c]
theorem readFrom_step (f : Nat) (l : Bs) (a : Nat) (acc : List Tok) (h : ¬ l.length ≤ a) (k : ¬ (first (l.drop a)).1 = 0) (c : ¬ acc.length = 800) :
    readFrom (f + 1) l a acc = readFrom f l (a + (first (l.drop a)).2.length + skip (l.drop (a + (first (l.drop a)).2.length))) (acc ++ [⟨(first (l.drop a)).1, (first (l.drop a)).2, (a : Int)⟩]) := by
  rw [readFrom, if_neg h, if_neg k, if_neg c]
end Mist
