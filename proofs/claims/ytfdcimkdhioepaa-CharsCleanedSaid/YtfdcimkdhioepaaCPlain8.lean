/-
  PLAIN LAWS of chapter 1: what a cleaned text looks like; cleaned again it is the same.
-/
import Derived.Test.YtfdcimkdhioepaaCPlain6
namespace Mist
open Go
/-- A text without comments and line feeds, in which blanks stand alone between other bytes (true: behind such a byte). -/
def neat : Bool → Bs → Bool
  | p, [] => p
  | p, b :: r => if b = 32 then p && neat false r else b != 35 && b != 10 && neat true r
theorem neat_append : ∀ (l m : Bs) (p : Bool), neat p l = true → neat true m = true → neat p (l ++ m) = true
  | [], m, p, h, k => by
    have : p = true := h
    subst this; exact k
  | b :: r, m, p, h, k => by
    rw [List.cons_append]
    rw [neat] at h ⊢
    by_cases hb : b = 32
    · rw [if_pos hb] at h ⊢
      rw [Bool.and_eq_true] at h ⊢
      exact ⟨h.1, neat_append r m _ h.2 k⟩
    · rw [if_neg hb] at h ⊢
      rw [Bool.and_eq_true] at h ⊢
      exact ⟨h.1, neat_append r m _ h.2 k⟩
theorem gapB_yes {b : UInt8} (h : gapB b = true) : b = 32 ∨ b = 10 := by unfold gapB at h; simpa using h
theorem gapB_no {b : UInt8} (h : ¬ gapB b = true) : b ≠ 32 ∧ b ≠ 10 := by
  unfold gapB at h
  constructor
  · intro e; exact h (by rw [e]; rfl)
  · intro e; exact h (by rw [e]; rfl)
theorem neat_one {b : UInt8} (p : Bool) (h1 : b ≠ 32) (h2 : b ≠ 10) (h3 : b ≠ 35) : neat p [b] = true := by
  rw [neat, if_neg h1]; simp [h2, h3, neat]
theorem neat_two {b : UInt8} (h1 : b ≠ 32) (h2 : b ≠ 10) (h3 : b ≠ 35) : neat true [32, b] = true := by
  rw [neat, if_pos rfl, neat_one false h1 h2 h3]; rfl
theorem jn_neat : ∀ (s out : Bs) (g : Bool), (∀ b ∈ s, b ≠ 35) → (out = [] ∨ neat false out = true) → (jn out g s = [] ∨ neat false (jn out g s) = true)
  | [], out, g, _, h => by rw [jn]; exact h
  | b :: r, out, g, hs, h => by
    rw [jn]
    by_cases hb : gapB b = true
    · rw [if_pos hb]; exact jn_neat r out true (fun c hc => hs c (List.mem_cons_of_mem _ hc)) h
    · rw [if_neg hb]
      obtain ⟨h1, h2⟩ := gapB_no hb
      have h3 := hs b (List.mem_cons_self ..)
      refine jn_neat r _ false (fun c hc => hs c (List.mem_cons_of_mem _ hc)) (.inr ?_)
      rcases h with h | h
      · subst h
        simp only [ne_eq, not_true_eq_false, and_false, if_false, List.nil_append]
        exact neat_one false h1 h2 h3
      · split
        · rw [List.append_assoc]; exact neat_append _ _ _ h (neat_two h1 h2 h3)
        · rw [List.append_nil]; exact neat_append _ _ _ h (neat_one true h1 h2 h3)
theorem jn_on : ∀ (t out : Bs), out ≠ [] → (neat true t = true → jn out false t = out ++ t) ∧ (neat false t = true → jn out true t = out ++ [32] ++ t)
  | [], out, _ => ⟨fun _ => by rw [jn, List.append_nil], fun h => by cases h⟩
  | b :: r, out, ho => by
    constructor
    · intro h
      rw [neat] at h
      by_cases hb : b = 32
      · subst hb
        rw [if_pos rfl] at h
        rw [jn, if_pos (by decide), (jn_on r out ho).2 (by simpa using h)]
        simp
      · rw [if_neg hb] at h
        simp only [Bool.and_eq_true, bne_iff_ne] at h
        rw [jn, if_neg (by unfold gapB; simp [hb, h.1.2])]
        simp only [Bool.false_eq_true, false_and, if_false, List.append_nil]
        rw [(jn_on r (out ++ [b]) (by simp)).1 h.2]
        simp
    · intro h
      rw [neat] at h
      by_cases hb : b = 32
      · subst hb
        rw [if_pos rfl] at h
        simp at h
      · rw [if_neg hb] at h
        simp only [Bool.and_eq_true, bne_iff_ne] at h
        rw [jn, if_neg (by unfold gapB; simp [hb, h.1.2])]
        simp only [true_and]
        rw [if_pos ho, (jn_on r _ (by simp)).1 h.2]
        simp
theorem jn_self (t : Bs) (h : t = [] ∨ neat false t = true) : jn [] false t = t := by
  rcases h with h | h
  · subst h; rfl
  · cases t with
    | nil => rfl
    | cons b r =>
      rw [neat] at h
      by_cases hb : b = 32
      · rw [if_pos hb] at h; simp at h
      · rw [if_neg hb] at h
        simp only [Bool.and_eq_true, bne_iff_ne] at h
        rw [jn, if_neg (by unfold gapB; simp [hb, h.1.2])]
        simp only [Bool.false_eq_true, false_and, if_false, List.append_nil, List.nil_append]
        rw [(jn_on r [b] (by simp)).1 h.2]
        rfl
theorem strip_no : ∀ (s : Bs) (c : Bool), ∀ b ∈ strip c s, b ≠ 35
  | [], _, _, h => by cases h
  | a :: r, c, b, h => by
    rw [strip] at h
    by_cases ha : a = 35 ∨ (c = true ∧ a ≠ 10)
    · rw [if_pos ha] at h; exact strip_no r _ b h
    · rw [if_neg ha] at h
      rcases List.mem_cons.1 h with h | h
      · rw [h]; exact fun e => ha (.inl e)
      · exact strip_no r _ b h
theorem strip_self : ∀ (t : Bs), (∀ b ∈ t, b ≠ 35) → strip false t = t
  | [], _ => rfl
  | b :: r, h => by
    rw [strip, if_neg (by have := h b (List.mem_cons_self ..); simp [this]), strip_self r (fun c hc => h c (List.mem_cons_of_mem _ hc))]
theorem neat_no : ∀ (t : Bs) (p : Bool), neat p t = true → ∀ b ∈ t, b ≠ 35 ∧ b ≠ 10
  | [], _, _, _, h => by cases h
  | a :: r, p, hn, b, h => by
    rw [neat] at hn
    by_cases ha : a = 32
    · rw [if_pos ha] at hn
      rcases List.mem_cons.1 h with h | h
      · rw [h, ha]; exact ⟨by decide, by decide⟩
      · exact neat_no r _ (by simp only [Bool.and_eq_true] at hn; exact hn.2) b h
    · rw [if_neg ha] at hn
      simp only [Bool.and_eq_true, bne_iff_ne] at hn
      rcases List.mem_cons.1 h with h | h
      · rw [h]; exact hn.1
      · exact neat_no r _ hn.2 b h
/-- At each place: a blank stands behind another byte, and before one. -/
theorem neat_at : ∀ (t : Bs) (p : Bool), neat p t = true → ∀ i, i < t.length → gt t i = 32 → (i = 0 → p = true) ∧ (0 < i → gt t (i - 1) ≠ 32) ∧ i + 1 < t.length
  | [], _, _, i, h, _ => by cases h
  | a :: r, p, hn, i, h, e => by
    rw [neat] at hn
    cases i with
    | zero =>
      have ha : a = 32 := by simpa [gt] using e
      rw [if_pos ha] at hn
      simp only [Bool.and_eq_true] at hn
      refine ⟨fun _ => hn.1, fun k => by omega, ?_⟩
      cases r with
      | nil => cases hn.2
      | cons x y => simp
    | succ i =>
      have hi : i < r.length := by simpa using h
      have he : gt r i = 32 := by simpa [gt] using e
      by_cases ha : a = 32
      · rw [if_pos ha] at hn
        simp only [Bool.and_eq_true] at hn
        obtain ⟨h1, h2, h3⟩ := neat_at r false hn.2 i hi he
        refine ⟨fun k => by omega, fun _ => ?_, by simp; omega⟩
        cases i with
        | zero => have := h1 rfl; cases this
        | succ i => simpa [gt] using h2 (by omega)
      · rw [if_neg ha] at hn
        simp only [Bool.and_eq_true, bne_iff_ne] at hn
        obtain ⟨_, h2, h3⟩ := neat_at r true hn.2 i hi he
        refine ⟨fun k => by omega, fun _ => ?_, by simp; omega⟩
        cases i with
        | zero => simpa [gt] using ha
        | succ i => simpa [gt] using h2 (by omega)
/-- The bytes that are no blanks and no line feeds. -/
def solid (s : Bs) : Bs := s.filter fun b => !gapB b
theorem solid_append (a b : Bs) : solid (a ++ b) = solid a ++ solid b := by simp [solid]
theorem jn_solid : ∀ (s out : Bs) (g : Bool), solid (jn out g s) = solid out ++ solid s
  | [], out, g => by rw [jn]; simp [solid]
  | b :: r, out, g => by
    rw [jn]
    by_cases hb : gapB b = true
    · rw [if_pos hb, jn_solid r]
      congr 1
      simp [solid, hb]
    · rw [if_neg hb, jn_solid r, solid_append, solid_append]
      have e : solid (if g = true ∧ out ≠ [] then [32] else []) = [] := by split <;> rfl
      have e2 : solid [b] = [b] := by simp [solid, hb]
      have e3 : solid (b :: r) = b :: solid r := by simp [solid, hb]
      rw [e, e2, e3]; simp
/-- A cleaned text. -/
def cleanT (s : Bs) : Bs := jn [] false (strip false s)
theorem cleanOf_T (s : Bs) (h : (check s).2 = 0) : cleanOf s = (cleanT s, 0) := by rw [cleanOf_ok s h, clean_jn]; rfl
theorem cleanT_neat (s : Bs) : cleanT s = [] ∨ neat false (cleanT s) = true := jn_neat _ _ _ (strip_no s false) (.inl rfl)
theorem cleanT_again (s : Bs) : cleanT (cleanT s) = cleanT s := by
  have h := cleanT_neat s
  have hs : strip false (cleanT s) = cleanT s := by
    rcases h with h | h
    · rw [h]; rfl
    · exact strip_self _ (fun b hb => (neat_no _ _ h b hb).1)
  show jn [] false (strip false (cleanT s)) = cleanT s
  rw [hs, jn_self _ h]
theorem cleanT_solid (s : Bs) : solid (cleanT s) = solid (strip false s) := by unfold cleanT; rw [jn_solid]; rfl
theorem cleanT_mem (s : Bs) : ∀ b ∈ cleanT s, b ≠ 35 ∧ b ≠ 10 := by
  intro b hb
  rcases cleanT_neat s with h | h
  · rw [h] at hb; cases hb
  · exact neat_no _ _ h b hb
theorem cleanT_at (s : Bs) (i : Nat) (hi : i < (cleanT s).length) (e : gt (cleanT s) i = 32) : 0 < i ∧ gt (cleanT s) (i - 1) ≠ 32 ∧ i + 1 < (cleanT s).length := by
  rcases cleanT_neat s with h | h
  · rw [h] at hi; cases hi
  · obtain ⟨h1, h2, h3⟩ := neat_at _ _ h i hi e
    have : 0 < i := by
      rcases Nat.eq_zero_or_pos i with h0 | h0
      · cases h1 h0
      · exact h0
    exact ⟨this, h2 this, h3⟩
theorem jn_sub : ∀ (s out : Bs) (g : Bool), (∀ b ∈ jn out g s, b ∈ out ∨ b ∈ s ∨ b = 32)
  | [], out, g, b, h => by rw [jn] at h; exact .inl h
  | a :: r, out, g, b, h => by
    rw [jn] at h
    by_cases ha : gapB a = true
    · rw [if_pos ha] at h
      rcases jn_sub r _ _ b h with h | h | h
      · exact .inl h
      · exact .inr (.inl (List.mem_cons_of_mem _ h))
      · exact .inr (.inr h)
    · rw [if_neg ha] at h
      rcases jn_sub r _ _ b h with h | h | h
      · rcases List.mem_append.1 h with h | h
        · rcases List.mem_append.1 h with h | h
          · exact .inl h
          · split at h
            · exact .inr (.inr (by simpa using h))
            · cases h
        · exact .inr (.inl (by rw [List.mem_singleton.1 h]; exact List.mem_cons_self ..))
      · exact .inr (.inl (List.mem_cons_of_mem _ h))
      · exact .inr (.inr h)
theorem strip_sub : ∀ (s : Bs) (c : Bool), ∀ b ∈ strip c s, b ∈ s
  | [], _, _, h => by cases h
  | a :: r, c, b, h => by
    rw [strip] at h
    by_cases ha : a = 35 ∨ (c = true ∧ a ≠ 10)
    · rw [if_pos ha] at h; exact List.mem_cons_of_mem _ (strip_sub r _ b h)
    · rw [if_neg ha] at h
      rcases List.mem_cons.1 h with h | h
      · rw [h]; exact List.mem_cons_self ..
      · exact List.mem_cons_of_mem _ (strip_sub r _ b h)
theorem cleanT_len (s : Bs) : (cleanT s).length ≤ 2 * s.length := by
  unfold cleanT
  rw [← refClean_jn]
  have := refClean_len s [] false false
  simpa using this
theorem cleanT_check (s : Bs) (h : (check s).2 = 0) (hl : s.length ≤ 1000) : (check (cleanT s)).2 = 0 := by
  have hl2 := cleanT_len s
  rw [check_ok _ (by omega)]
  intro b hb
  rcases jn_sub _ _ _ b hb with hb | hb | hb
  · cases hb
  · exact (check_valid s h).2 b (strip_sub s _ b hb)
  · rw [hb]; rfl
theorem strip_hash (r : Bs) (c : Bool) : strip c (35 :: r) = strip true r := by rw [strip, if_pos (.inl rfl)]
theorem strip_feed (r : Bs) (c : Bool) : solid (strip c (10 :: r)) = solid (strip false r) := by rw [strip, if_neg (by simp)]; rfl
theorem strip_in (b : UInt8) (r : Bs) (h : b ≠ 10) : strip true (b :: r) = strip true r := by rw [strip, if_pos (.inr ⟨rfl, h⟩)]
theorem strip_blank (r : Bs) : solid (strip false (32 :: r)) = solid (strip false r) := by rw [strip, if_neg (by simp)]; rfl
theorem strip_put (b : UInt8) (r : Bs) (h1 : b ≠ 35) (h2 : b ≠ 10) (h3 : b ≠ 32) : solid (strip false (b :: r)) = b :: solid (strip false r) := by
  rw [strip, if_neg (by simp [h1])]
  have : gapB b = false := by unfold gapB; simp [h2, h3]
  simp [solid, this]
end Mist
