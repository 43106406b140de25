/-
  PLAIN FUNCTIONS of chapter 2, fifth part: brackets.
-/
import Derived.Test.YtpomgledekkjjaaDoorPlain4
namespace Mist
/-- The bracket that closes one; no text if there is none. -/
def closerOf (x : Bs) : Bs := if x = [40] then [41] else if x = [91] then [93] else if x = [123] then [125] else []
def isCloser (x : Bs) : Bool := (x == [41]) || (x == [93]) || (x == [125])
/-- token.Match, on from what is open. -/
def matchGo : List Bs → Nat → List Tok → Nat × Nat
  | _, _, [] => (0, 9)
  | st, i, t :: r =>
    if closerOf t.text ≠ [] then matchGo (st ++ [closerOf t.text]) (i + 1) r
    else if isCloser t.text = true then
      if st.getLast? = some t.text then (if st.length = 1 then (i, 0) else matchGo st.dropLast (i + 1) r) else (0, 9)
    else matchGo st (i + 1) r
def matchOf (l : List Tok) (a : Int) : Nat × Nat :=
  if checkToks l ≠ 0 then (0, checkToks l)
  else if a < 0 ∨ (l.length : Int) ≤ a ∨ closerOf (tg l a.toNat).text = [] then (0, 7)
  else matchGo [] a.toNat (l.drop a.toNat)
theorem closerOf_cases (x : Bs) : (x = [40] ∧ closerOf x = [41]) ∨ (x = [91] ∧ closerOf x = [93]) ∨ (x = [123] ∧ closerOf x = [125]) ∨ (x ≠ [40] ∧ x ≠ [91] ∧ x ≠ [123] ∧ closerOf x = []) := by
  unfold closerOf
  by_cases h1 : x = [40]
  · exact .inl ⟨h1, by rw [if_pos h1]⟩
  · by_cases h2 : x = [91]
    · exact .inr (.inl ⟨h2, by rw [if_neg h1, if_pos h2]⟩)
    · by_cases h3 : x = [123]
      · exact .inr (.inr (.inl ⟨h3, by rw [if_neg h1, if_neg h2, if_pos h3]⟩))
      · exact .inr (.inr (.inr ⟨h1, h2, h3, by rw [if_neg h1, if_neg h2, if_neg h3]⟩))
theorem matchGo_open (l : List Tok) (k : Nat) (h : k < l.length) (st : List Bs) (i : Nat) (c : closerOf (tg l k).text ≠ []) :
    matchGo st i (l.drop k) = matchGo (st ++ [closerOf (tg l k).text]) (i + 1) (l.drop (k + 1)) := by
  rw [tg_drop l k h, matchGo, if_pos c]
theorem matchGo_other (l : List Tok) (k : Nat) (h : k < l.length) (st : List Bs) (i : Nat) (c : closerOf (tg l k).text = []) (d : isCloser (tg l k).text = false) :
    matchGo st i (l.drop k) = matchGo st (i + 1) (l.drop (k + 1)) := by
  rw [tg_drop l k h, matchGo, if_neg (by simpa using c), if_neg (by simp [d])]
theorem matchGo_wrong (l : List Tok) (k : Nat) (h : k < l.length) (st : List Bs) (i : Nat) (c : closerOf (tg l k).text = []) (d : isCloser (tg l k).text = true) (e : st.getLast? ≠ some (tg l k).text) :
    matchGo st i (l.drop k) = (0, 9) := by
  rw [tg_drop l k h, matchGo, if_neg (by simpa using c), if_pos d, if_neg e]
theorem matchGo_done (l : List Tok) (k : Nat) (h : k < l.length) (st : List Bs) (i : Nat) (c : closerOf (tg l k).text = []) (d : isCloser (tg l k).text = true) (e : st.getLast? = some (tg l k).text) (n : st.length = 1) :
    matchGo st i (l.drop k) = (i, 0) := by
  rw [tg_drop l k h, matchGo, if_neg (by simpa using c), if_pos d, if_pos e, if_pos n]
theorem matchGo_pop (l : List Tok) (k : Nat) (h : k < l.length) (st : List Bs) (i : Nat) (c : closerOf (tg l k).text = []) (d : isCloser (tg l k).text = true) (e : st.getLast? = some (tg l k).text) (n : st.length ≠ 1) :
    matchGo st i (l.drop k) = matchGo st.dropLast (i + 1) (l.drop (k + 1)) := by
  rw [tg_drop l k h, matchGo, if_neg (by simpa using c), if_pos d, if_pos e, if_neg n]
theorem matchGo_end (l : List Tok) (k : Nat) (h : l.length ≤ k) (st : List Bs) (i : Nat) : matchGo st i (l.drop k) = (0, 9) := by
  rw [List.drop_eq_nil_of_le h]; rfl
theorem matchOf_bad (l : List Tok) (a : Int) (h : checkToks l ≠ 0) : matchOf l a = (0, checkToks l) := by rw [matchOf, if_pos h]
theorem matchOf_none (l : List Tok) (a : Int) (h : checkToks l = 0) (g : a < 0 ∨ (l.length : Int) ≤ a ∨ closerOf (tg l a.toNat).text = []) : matchOf l a = (0, 7) := by
  rw [matchOf, if_neg (by simpa using h), if_pos g]
theorem matchOf_go (l : List Tok) (a : Nat) (h : checkToks l = 0) (g : a < l.length) (c : closerOf (tg l a).text ≠ []) : matchOf l a = matchGo [] a (l.drop a) := by
  rw [matchOf, if_neg (by simpa using h), if_neg]
  · rfl
  · simp only [Int.toNat_natCast]
    rintro (h | h | h)
    · omega
    · omega
    · exact c h
theorem last_eq (st : List Bs) (h : 0 < st.length) : st.getLast? = some (sg st (st.length - 1)) := by
  rw [List.getLast?_eq_getElem?, sg_eq _ _ (by omega)]
  exact List.getElem?_eq_getElem (by omega)
theorem last_split (st : List Bs) (h : 0 < st.length) : st = st.dropLast ++ [sg st (st.length - 1)] := by
  rw [sg_eq _ _ (by omega), List.dropLast_eq_take, ← List.take_succ_eq_append_getElem (by omega), List.take_of_length_le (by omega)]
end Mist
