/-
  PLAIN FUNCTIONS of chapter 2, ninth part: tokens at their own places.
-/
import Derived.Test.YtpomgledekkjjaaDoorPlain4
namespace Mist
/-- token.Join, on from what was written last, and all that was. -/
def joinGo : Bs → Bs → List Tok → Option Bs
  | _, out, [] => some out
  | last, out, t :: r => if t.at_ = (out.length : Int) ∧ needB last t.text = true then none else joinGo t.text (out ++ spaces (t.at_.toNat - out.length) ++ t.text) r
def joinOf (l : List Tok) : Bs × Nat :=
  if checkToks l ≠ 0 then ([], checkToks l) else match joinGo [] [] l with | none => ([], 4) | some s => (s, 0)
/-- Where the token before ends. -/
def endOf (l : List Tok) (n : Nat) : Int := if n = 0 then 0 else (tg l (n - 1)).at_ + ((tg l (n - 1)).text.length : Int)
theorem endOf_zero (l : List Tok) : endOf l 0 = 0 := rfl
theorem endOf_succ (l : List Tok) (n : Nat) : endOf l (n + 1) = (tg l n).at_ + ((tg l n).text.length : Int) := by
  unfold endOf; rw [if_neg (by omega)]; rfl
theorem fitsB_place {t b : Tok} (h : fitsB t b = true) : 0 ≤ t.at_ ∧ (b.text.length : Int) ≤ t.at_ - b.at_ := by
  unfold fitsB at h
  simp only [Bool.and_eq_true, decide_eq_true_eq] at h
  exact ⟨h.1.2, h.2⟩
theorem fits_at (l : List Tok) (h : checkToks l = 0) (n : Nat) (hn : n < l.length) : fitsB (tg l n) (lastTok tok0 (l.take n)) = true := by
  have hf := (checkToks_zero l h).2
  have e : l = l.take n ++ (tg l n :: l.drop (n + 1)) := by rw [← tg_drop l n hn, List.take_append_drop]
  rw [e, fitsAll_append, fitsAll] at hf
  simp only [Bool.and_eq_true] at hf
  exact hf.2.1
theorem place_from (l : List Tok) (h : checkToks l = 0) (n : Nat) (hn : n < l.length) : 0 ≤ (tg l n).at_ ∧ endOf l n ≤ (tg l n).at_ := by
  have hf := fitsB_place (fits_at l h n hn)
  rcases lastTok_cases l n (by omega) with ⟨e, rfl⟩ | ⟨k, rfl, hk, e⟩
  · exact ⟨hf.1, by rw [endOf_zero]; exact hf.1⟩
  · rw [e] at hf
    refine ⟨hf.1, ?_⟩
    rw [endOf_succ]; omega
theorem last_place (l : List Tok) (h : checkToks l = 0) (k : Nat) (hk : l.length = k + 1) : endOf l (k + 1) ≤ 2000 := by
  have h2 := checkToks_zero l h
  have h3 : ¬ (2000 : Int) - ((lastTok tok0 l).text.length : Int) < (lastTok tok0 l).at_ := by
    intro hc
    rw [checkToks_far l (by omega) h2.2 hc] at h
    cases h
  have e := lastTok_take l k (by omega)
  rw [List.take_of_length_le (by omega)] at e
  rw [e] at h3
  rw [endOf_succ]; omega
theorem place_to (l : List Tok) (h : checkToks l = 0) : ∀ d n, l.length = n + d + 1 → endOf l (n + 1) ≤ 2000
  | 0, n, hn => last_place l h n (by omega)
  | d + 1, n, hn => by
    have h1 := place_to l h d (n + 1) (by omega)
    have h2 := (place_from l h (n + 1) (by omega)).2
    have h3 := endOf_succ l (n + 1)
    omega
theorem place_ok (l : List Tok) (h : checkToks l = 0) (n : Nat) (hn : n < l.length) : 0 ≤ (tg l n).at_ ∧ endOf l n ≤ (tg l n).at_ ∧ (tg l n).at_ + ((tg l n).text.length : Int) ≤ 2000 := by
  have h1 := place_from l h n hn
  have h2 := place_to l h (l.length - n - 1) n (by omega)
  rw [endOf_succ] at h2
  exact ⟨h1.1, h1.2, h2⟩
theorem joinGo_step (l : List Tok) (n : Nat) (h : n < l.length) (last out : Bs) (k : ¬ ((tg l n).at_ = (out.length : Int) ∧ needB last (tg l n).text = true)) :
    joinGo last out (l.drop n) = joinGo (tg l n).text (out ++ spaces ((tg l n).at_.toNat - out.length) ++ (tg l n).text) (l.drop (n + 1)) := by
  rw [tg_drop l n h, joinGo, if_neg k]
theorem joinGo_stop (l : List Tok) (n : Nat) (h : n < l.length) (last out : Bs) (k : (tg l n).at_ = (out.length : Int)) (k2 : needB last (tg l n).text = true) : joinGo last out (l.drop n) = none := by
  rw [tg_drop l n h, joinGo, if_pos ⟨k, k2⟩]
theorem joinGo_end (l : List Tok) (n : Nat) (h : l.length ≤ n) (last out : Bs) : joinGo last out (l.drop n) = some out := by
  rw [List.drop_eq_nil_of_le h]; rfl
theorem joinOf_bad (l : List Tok) (h : checkToks l ≠ 0) : joinOf l = ([], checkToks l) := by unfold joinOf; rw [if_pos h]
theorem joinOf_none (l : List Tok) (h : checkToks l = 0) (k : joinGo [] [] l = none) : joinOf l = ([], 4) := by unfold joinOf; rw [if_neg (by simpa using h), k]
theorem joinOf_some (l : List Tok) (h : checkToks l = 0) (s : Bs) (k : joinGo [] [] l = some s) : joinOf l = (s, 0) := by unfold joinOf; rw [if_neg (by simpa using h), k]
theorem kind_at (l : List Tok) (h : checkToks l = 0) (n : Nat) (hn : n < l.length) : kind (tg l n).text ≠ 0 := fitsAll_kind _ _ (checkToks_zero l h).2 _ (tg_mem l n hn)
/-- What is written last when n tokens are written. -/
def lastText (l : List Tok) (n : Nat) : Bs := if n = 0 then [] else (tg l (n - 1)).text
theorem lastText_zero (l : List Tok) : lastText l 0 = [] := rfl
theorem lastText_succ (l : List Tok) (n : Nat) : lastText l (n + 1) = (tg l n).text := by unfold lastText; rw [if_neg (by omega)]; rfl
theorem needB_nil (t : Bs) : needB [] t = false := rfl
theorem needB_of (a t : Bs) (h : 0 < a.length) : needB a t = glue a t := by
  cases a with
  | nil => simp at h
  | cons x r => rfl
end Mist
