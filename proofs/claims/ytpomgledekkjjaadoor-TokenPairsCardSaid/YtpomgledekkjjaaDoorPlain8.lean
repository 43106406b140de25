/-
  PLAIN FUNCTIONS of chapter 2, eighth part: how long tokens are all together.
-/
import Derived.Test.YtpomgledekkjjaaDoorPlain3
namespace Mist
def lens (l : List Tok) : Nat := (l.map fun t => t.text.length).sum
/-- The texts are no longer than a string can be; the places are numbers. -/
def TokWide (l : List Tok) : Prop := ∀ t ∈ l, t.text.length ≤ 140737488351232 ∧ inI64 t.at_
theorem lens_take (l : List Tok) (n : Nat) (h : n < l.length) : lens (l.take (n + 1)) = lens (l.take n) + (tg l n).text.length := by
  rw [tg_take l n h]; simp [lens]
theorem lens_le' (l : List Tok) (c n : Nat) (h : ∀ t ∈ l, t.text.length ≤ c) : lens (l.take n) ≤ n * c := by
  induction n with
  | zero => simp [lens]
  | succ n ih =>
    rw [Nat.succ_mul]
    by_cases hn : n < l.length
    · rw [lens_take l n hn]
      exact Nat.add_le_add ih (h _ (tg_mem l n hn))
    · rw [List.take_of_length_le (by omega)] at ih ⊢
      omega
theorem lens_le (l : List Tok) (n : Nat) (h : TokWide l) : lens (l.take n) ≤ n * 140737488351232 := lens_le' l _ n fun t ht => (h t ht).1
theorem lens_mem (l : List Tok) : ∀ t ∈ l, t.text.length ≤ lens l := by
  induction l with
  | nil => intro t h; cases h
  | cons x r ih =>
    intro t h
    have e : lens (x :: r) = x.text.length + lens r := by simp [lens]
    rcases List.mem_cons.1 h with rfl | h
    · omega
    · have := ih t h; omega
theorem ok_of_lens (l : List Tok) (h : TokWide l) (k : lens l ≤ 3000) : TokOk l := fun t ht => ⟨by have := lens_mem l t ht; omega, (h t ht).2⟩
end Mist
