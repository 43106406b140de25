/-
  PLAIN FUNCTIONS of chapter 2, third part: the error of tokens.
-/
import Derived.Test.YtpomgledekkjjaaDoorPlain2
namespace Mist
def inI64 (n : Int) : Prop := -9223372036854775808 ≤ n ∧ n ≤ 9223372036854775807
/-- Whether a token is one, and stands behind another one. -/
def fitsB (t b : Tok) : Bool := (kind t.text != 0) && (kind t.text == t.kind) && decide (0 ≤ t.at_) && decide ((b.text.length : Int) ≤ t.at_ - b.at_)
def tok0 : Tok := ⟨0, [], 0⟩
/-- Whether all tokens fit, one behind the other. -/
def fitsAll : Tok → List Tok → Bool
  | _, [] => true
  | b, t :: r => fitsB t b && fitsAll t r
def lastTok : Tok → List Tok → Tok
  | b, [] => b
  | _, t :: r => lastTok t r
/-- token.Check. -/
def checkToks (l : List Tok) : Nat :=
  if 800 < l.length then 5 else
  if fitsAll tok0 l = true then (if (2000 : Int) - ((lastTok tok0 l).text.length : Int) < (lastTok tok0 l).at_ then 5 else 0) else 4
/-- The tokens' texts are not too long, their places are numbers. -/
def TokOk (l : List Tok) : Prop := ∀ t ∈ l, t.text.length ≤ 100000000 ∧ inI64 t.at_
/-- The token at a place. -/
def tg (l : List Tok) (k : Nat) : Tok := l.getD k ⟨0, [], 0⟩
theorem tg_eq (l : List Tok) (k : Nat) (h : k < l.length) : tg l k = l[k] := by simp [tg, h]
theorem tg_mem (l : List Tok) (k : Nat) (h : k < l.length) : tg l k ∈ l := by rw [tg_eq l k h]; exact List.getElem_mem h
theorem tg_take (l : List Tok) (n : Nat) (h : n < l.length) : l.take (n + 1) = l.take n ++ [tg l n] := by rw [tg_eq l n h]; exact List.take_succ_eq_append_getElem h
theorem tg_drop (l : List Tok) (n : Nat) (h : n < l.length) : l.drop n = tg l n :: l.drop (n + 1) := by rw [tg_eq l n h]; exact List.drop_eq_getElem_cons h
theorem lastTok_snoc (b t : Tok) (l : List Tok) : lastTok b (l ++ [t]) = t := by
  induction l generalizing b with
  | nil => rfl
  | cons x r ih => exact ih x
theorem fitsAll_append (b : Tok) (l m : List Tok) : fitsAll b (l ++ m) = (fitsAll b l && fitsAll (lastTok b l) m) := by
  induction l generalizing b with
  | nil => simp [fitsAll, lastTok]
  | cons x r ih => simp [fitsAll, lastTok, ih, Bool.and_assoc]
theorem fitsAll_take (l : List Tok) (n : Nat) (h : n < l.length) (a : fitsAll tok0 (l.take n) = true) : fitsAll tok0 (l.take (n + 1)) = fitsB (tg l n) (lastTok tok0 (l.take n)) := by
  rw [tg_take l n h, fitsAll_append, a]; simp [fitsAll]
theorem fitsAll_no (l : List Tok) (n : Nat) (h : n < l.length) (f : fitsB (tg l n) (lastTok tok0 (l.take n)) = false) : fitsAll tok0 l = false := by
  have e : l = l.take n ++ (tg l n :: l.drop (n + 1)) := by rw [← tg_drop l n h, List.take_append_drop]
  rw [e, fitsAll_append, fitsAll, f]; simp
theorem lastTok_take (l : List Tok) (n : Nat) (h : n < l.length) : lastTok tok0 (l.take (n + 1)) = tg l n := by
  rw [tg_take l n h, lastTok_snoc]
theorem lastTok_cases (l : List Tok) (n : Nat) (h : n ≤ l.length) : (lastTok tok0 (l.take n) = tok0 ∧ n = 0) ∨ ∃ k, n = k + 1 ∧ k < l.length ∧ lastTok tok0 (l.take n) = tg l k := by
  cases n with
  | zero => exact .inl ⟨by simp [lastTok], rfl⟩
  | succ k => exact .inr ⟨k, rfl, h, lastTok_take l k h⟩
theorem fitsB_at {t b : Tok} (h : fitsB t b = true) : 0 ≤ t.at_ := by
  unfold fitsB at h
  simp only [Bool.and_eq_true, decide_eq_true_eq] at h
  exact h.1.2
theorem last_ok (l : List Tok) (n : Nat) (h : n ≤ l.length) (ok : TokOk l) (a : fitsAll tok0 (l.take n) = true) :
    0 ≤ (lastTok tok0 (l.take n)).at_ ∧ inI64 (lastTok tok0 (l.take n)).at_ ∧ (lastTok tok0 (l.take n)).text.length ≤ 100000000 := by
  rcases lastTok_cases l n h with ⟨e, _⟩ | ⟨k, rfl, hk, e⟩
  · rw [e]; exact ⟨by decide, by unfold inI64 tok0; decide, by decide⟩
  · have hm := ok _ (tg_mem l k hk)
    rw [tg_take l k hk, fitsAll_append] at a
    simp only [fitsAll, Bool.and_eq_true] at a
    rw [e]
    exact ⟨fitsB_at a.2.1, hm.2, hm.1⟩
theorem checkToks_long (l : List Tok) (h : 800 < l.length) : checkToks l = 5 := by rw [checkToks, if_pos h]
theorem checkToks_form (l : List Tok) (h : ¬ 800 < l.length) (a : fitsAll tok0 l = false) : checkToks l = 4 := by rw [checkToks, if_neg h, a]; simp
theorem checkToks_far (l : List Tok) (h : ¬ 800 < l.length) (a : fitsAll tok0 l = true) (b : (2000 : Int) - ((lastTok tok0 l).text.length : Int) < (lastTok tok0 l).at_) : checkToks l = 5 := by
  rw [checkToks, if_neg h, if_pos a, if_pos b]
theorem checkToks_ok (l : List Tok) (h : ¬ 800 < l.length) (a : fitsAll tok0 l = true) (b : ¬ (2000 : Int) - ((lastTok tok0 l).text.length : Int) < (lastTok tok0 l).at_) : checkToks l = 0 := by
  rw [checkToks, if_neg h, if_pos a, if_neg b]
end Mist
