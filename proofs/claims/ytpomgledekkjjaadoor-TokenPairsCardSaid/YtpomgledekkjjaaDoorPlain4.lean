/-
  PLAIN FUNCTIONS of chapter 2, fourth part: the texts of tokens.
-/
import Derived.Test.YtpomgledekkjjaaDoorPlain3
namespace Mist
def spaces (c : Nat) : Bs := List.replicate c 32
/-- Whether there must be a gap between what was written last and a token. -/
def needB (last t : Bs) : Bool := !last.isEmpty && glue last t
def gapN (last t : Bs) : Nat := if needB last t = true then 1 else 0
/-- token.Text, on from what was written last, and all that was. -/
def textGo : Bs → Bs → List Tok → Bs
  | _, out, [] => out
  | last, out, t :: r => textGo t.text (out ++ spaces (gapN last t.text) ++ t.text) r
def textOf (l : List Tok) : Bs := if checkToks l = 0 then textGo [] [] l else []
theorem kind_len (s : Bs) (h : kind s ≠ 0) : s.length ≤ 12 ∧ 0 < s.length := by
  have hk : (first s).2 = s ∧ (first s).1 ≠ 0 := by
    unfold kind at h
    split at h
    · exact ⟨by assumption, h⟩
    · exact absurd rfl h
  obtain ⟨h1, h2⟩ := hk
  have hp := first_len s h2
  rw [h1] at hp
  refine ⟨?_, hp.1⟩
  by_cases h0 : s.length = 0
  · omega
  by_cases hs : smallB (gt s 0) = true
  · by_cases hk : hasB keywords (s.take (while_ partB s)) = true
    · rw [first_kw s h0 hs hk] at h1
      simp only at h1
      rw [h1] at hk
      have : ∀ g ∈ keywords, g.length ≤ 12 := by decide
      exact this s (by simpa [hasB] using hk)
    · by_cases hn : while_ partB s ≤ 12
      · rw [first_name s h0 hs hk hn] at h1
        simp only at h1
        have := congrArg List.length h1
        simp at this
        omega
      · rw [first_long s h0 hs hk hn] at h2; exact absurd rfl h2
  · by_cases hd : digitB (gt s 0) = true
    · by_cases hn : isNumber (s.take (while_ digitB s)) = true
      · rw [first_num s h0 hs hd hn] at h1
        simp only at h1
        rw [h1] at hn
        simp [isNumber] at hn
        omega
      · rw [first_nonum s h0 hs hd hn] at h2; exact absurd rfl h2
    · cases hg : signOf s with
      | none => rw [first_none s h0 hs hd hg] at h2; exact absurd rfl h2
      | some g =>
        rw [first_sign s h0 hs hd g hg] at h1
        simp only at h1
        rw [h1] at hg
        have : ∀ g ∈ signs, g.length ≤ 12 := by decide
        exact this s (List.mem_of_find?_eq_some hg)
theorem fitsAll_kind (b : Tok) (l : List Tok) (h : fitsAll b l = true) : ∀ t ∈ l, kind t.text ≠ 0 := by
  induction l generalizing b with
  | nil => intro t ht; simp at ht
  | cons x r ih =>
    simp only [fitsAll, Bool.and_eq_true] at h
    intro t ht
    rcases List.mem_cons.1 ht with rfl | ht
    · have := h.1
      unfold fitsB at this
      simp only [Bool.and_eq_true, bne_iff_ne] at this
      exact this.1.1.1
    · exact ih x h.2 t ht
theorem checkToks_zero (l : List Tok) (h : checkToks l = 0) : l.length ≤ 800 ∧ fitsAll tok0 l = true := by
  unfold checkToks at h
  split at h
  · simp at h
  · split at h
    · exact ⟨by omega, by assumption⟩
    · simp at h
theorem checkToks_len (l : List Tok) (h : checkToks l = 0) (n : Nat) (hn : n < l.length) : (tg l n).text.length ≤ 12 ∧ 0 < (tg l n).text.length :=
  kind_len _ (fitsAll_kind _ _ (checkToks_zero l h).2 _ (tg_mem l n hn))
theorem gapN_le (a b : Bs) : gapN a b ≤ 1 := by unfold gapN; split <;> omega
theorem textGo_step (l : List Tok) (n : Nat) (h : n < l.length) (last out : Bs) : textGo last out (l.drop n) = textGo (tg l n).text (out ++ spaces (gapN last (tg l n).text) ++ (tg l n).text) (l.drop (n + 1)) := by
  rw [tg_drop l n h]; rfl
theorem textGo_end (l : List Tok) (n : Nat) (h : l.length ≤ n) (last out : Bs) : textGo last out (l.drop n) = out := by
  rw [List.drop_eq_nil_of_le h]; rfl
end Mist
