/-
  PLAIN LAWS of chapter 2: brackets that are opened and closed one behind the other; one that is put in between.
-/
import Derived.Test.YtpomgledekkjjaaDoorPlain5
namespace Mist
def isSign (x : Bs) : Bool := (x == [40]) || (x == [91]) || (x == [123]) || (x == [41]) || (x == [93]) || (x == [125]) || (x == [43])
theorem isSign_kind {x : Bs} (h : isSign x = true) : kind x = 4 ∧ x.length = 1 := by
  unfold isSign at h
  simp only [Bool.or_eq_true, beq_iff_eq] at h
  rcases h with (((((h | h) | h) | h) | h) | h) | h <;> subst h <;> exact ⟨by decide +kernel, rfl⟩
theorem isCloser_cases {x : Bs} (h : isCloser x = true) : x = [41] ∨ x = [93] ∨ x = [125] := by
  unfold isCloser at h
  simp only [Bool.or_eq_true, beq_iff_eq] at h
  rcases h with (h | h) | h
  · exact .inl h
  · exact .inr (.inl h)
  · exact .inr (.inr h)
theorem closer_not_open {x : Bs} (h : isCloser x = true) : closerOf x = [] := by
  rcases isCloser_cases h with h | h | h <;> subst h <;> decide
theorem open_closer {x : Bs} (h : closerOf x ≠ []) : isCloser (closerOf x) = true ∧ isCloser x = false := by
  rcases closerOf_cases x with ⟨a, b⟩ | ⟨a, b⟩ | ⟨a, b⟩ | ⟨_, _, _, b⟩
  · rw [b, a]; exact ⟨by decide, by decide⟩
  · rw [b, a]; exact ⟨by decide, by decide⟩
  · rw [b, a]; exact ⟨by decide, by decide⟩
  · exact absurd b h
theorem matchGo_cases : ∀ (ts : List Tok) (st : List Bs) (i : Nat), matchGo st i ts = (0, 9) ∨ ∃ j, matchGo st i ts = (j, 0)
  | [], _, _ => .inl rfl
  | t :: r, st, i => by
    rw [matchGo]
    split
    · exact matchGo_cases r _ _
    · split
      · split
        · split
          · exact .inr ⟨i, rfl⟩
          · exact matchGo_cases r _ _
        · exact .inl rfl
      · exact matchGo_cases r _ _
/-- How many tokens open, and how many close, brackets of a kind. -/
def opC (c : Bs) (ts : List Tok) : Nat := ts.countP fun t => closerOf t.text == c
def clC (c : Bs) (ts : List Tok) : Nat := ts.countP fun t => t.text == c
theorem opC_cons (c : Bs) (t : Tok) (r : List Tok) : opC c (t :: r) = opC c r + if closerOf t.text = c then 1 else 0 := by
  unfold opC; rw [List.countP_cons]; simp
theorem clC_cons (c : Bs) (t : Tok) (r : List Tok) : clC c (t :: r) = clC c r + if t.text = c then 1 else 0 := by
  unfold clC; rw [List.countP_cons]; simp
theorem opC_append (c : Bs) (a b : List Tok) : opC c (a ++ b) = opC c a + opC c b := List.countP_append
theorem clC_append (c : Bs) (a b : List Tok) : clC c (a ++ b) = clC c a + clC c b := List.countP_append
theorem closer_ne {c : Bs} (h : isCloser c = true) : c ≠ [] := by
  rcases isCloser_cases h with h | h | h <;> subst h <;> simp
theorem count_last (c x : Bs) (st : List Bs) (h : st.getLast? = some x) : st.count c = st.dropLast.count c + if x = c then 1 else 0 := by
  obtain ⟨ys, rfl⟩ : ∃ ys, st = ys ++ [x] := by
    obtain ⟨ys, h⟩ := List.getLast?_eq_some_iff.1 h
    exact ⟨ys, h⟩
  rw [List.dropLast_concat, List.count_append, List.count_singleton]
  simp
/-- Behind a bracket that is closed: no kind was closed more often than opened; at the end just as often. -/
theorem go_count : ∀ (ts : List Tok) (st : List Bs) (i j : Nat), matchGo st i ts = (j, 0) → i ≤ j ∧ j - i < ts.length ∧
    ∀ c, isCloser c = true → (∀ p, p ≤ j - i → clC c (ts.take p) ≤ st.count c + opC c (ts.take p)) ∧ clC c (ts.take (j - i + 1)) = st.count c + opC c (ts.take (j - i + 1))
  | [], st, i, j, h => by rw [matchGo] at h; simp at h
  | t :: r, st, i, j, h => by
    rw [matchGo] at h
    by_cases h1 : closerOf t.text ≠ []
    · rw [if_pos h1] at h
      obtain ⟨a, b, g⟩ := go_count r _ _ _ h
      refine ⟨by omega, by simp; omega, fun c hc => ?_⟩
      obtain ⟨g1, g2⟩ := g c hc
      have ht : ¬ t.text = c := by
        intro e; have := (open_closer h1).2; rw [e, hc] at this; cases this
      have hcnt : (st ++ [closerOf t.text]).count c = st.count c + if closerOf t.text = c then 1 else 0 := by rw [List.count_append, List.count_singleton]; simp
      constructor
      · intro p hp
        cases p with
        | zero => simp [clC]
        | succ p =>
          have := g1 p (by omega)
          rw [List.take_succ_cons, clC_cons, opC_cons, if_neg ht]
          rw [hcnt] at this; omega
      · rw [show j - i + 1 = (j - (i + 1) + 1) + 1 by omega, List.take_succ_cons, clC_cons, opC_cons, if_neg ht, g2, hcnt]; omega
    · rw [if_neg h1] at h
      have h1' : closerOf t.text = [] := by simpa using h1
      have hop : ∀ c, isCloser c = true → ¬ closerOf t.text = c := fun c hc e => closer_ne hc (by rw [← e, h1'])
      by_cases h2 : isCloser t.text = true
      · rw [if_pos h2] at h
        by_cases h3 : st.getLast? = some t.text
        · rw [if_pos h3] at h
          by_cases h4 : st.length = 1
          · rw [if_pos h4] at h
            injection h with h _
            subst h
            refine ⟨Nat.le_refl _, by simp, fun c hc => ⟨fun p hp => by
              obtain rfl : p = 0 := by omega
              simp [clC], ?_⟩⟩
            have := count_last c t.text st h3
            have hd : st.dropLast = [] := List.eq_nil_of_length_eq_zero (by simp [h4])
            rw [hd] at this
            rw [Nat.sub_self, Nat.zero_add, List.take_succ_cons, List.take_zero, clC_cons, opC_cons, if_neg (hop c hc), this]
            simp [clC, opC]
          · rw [if_neg h4] at h
            obtain ⟨a, b, g⟩ := go_count r _ _ _ h
            refine ⟨by omega, by simp; omega, fun c hc => ?_⟩
            obtain ⟨g1, g2⟩ := g c hc
            have hl := count_last c t.text st h3
            constructor
            · intro p hp
              cases p with
              | zero => simp [clC]
              | succ p =>
                have := g1 p (by omega)
                rw [List.take_succ_cons, clC_cons, opC_cons, if_neg (hop c hc)]
                omega
            · rw [show j - i + 1 = (j - (i + 1) + 1) + 1 by omega, List.take_succ_cons, clC_cons, opC_cons, if_neg (hop c hc), g2]; omega
        · rw [if_neg h3] at h; simp at h
      · rw [if_neg h2] at h
        obtain ⟨a, b, g⟩ := go_count r _ _ _ h
        refine ⟨by omega, by simp; omega, fun c hc => ?_⟩
        obtain ⟨g1, g2⟩ := g c hc
        have ht : ¬ t.text = c := fun e => h2 (by rw [e]; exact hc)
        constructor
        · intro p hp
          cases p with
          | zero => simp [clC]
          | succ p =>
            have := g1 p (by omega)
            rw [List.take_succ_cons, clC_cons, opC_cons, if_neg (hop c hc), if_neg ht]; omega
        · rw [show j - i + 1 = (j - (i + 1) + 1) + 1 by omega, List.take_succ_cons, clC_cons, opC_cons, if_neg (hop c hc), if_neg ht, g2]; omega
/-- Till it is closed, a bracket stays open. -/
theorem go_bottom (c : Bs) (hc : isCloser c = true) : ∀ (ts : List Tok) (st : List Bs) (i j : Nat), matchGo (c :: st) i ts = (j, 0) →
    ∀ p, p ≤ j - i → clC c (ts.take p) + 1 ≤ (c :: st).count c + opC c (ts.take p)
  | [], st, i, j, h, _, _ => by rw [matchGo] at h; simp at h
  | t :: r, st, i, j, h, p, hp => by
    cases p with
    | zero => simp [clC]; omega
    | succ p =>
      rw [matchGo] at h
      rw [List.take_succ_cons, clC_cons, opC_cons]
      by_cases h1 : closerOf t.text ≠ []
      · rw [if_pos h1, List.cons_append] at h
        have hij := (go_count r _ _ _ h).1
        have := go_bottom c hc r _ _ _ h p (by omega)
        have ht : ¬ t.text = c := by
          intro e; have := (open_closer h1).2; rw [e, hc] at this; cases this
        have hcnt : (c :: (st ++ [closerOf t.text])).count c = (c :: st).count c + if closerOf t.text = c then 1 else 0 := by
          rw [← List.cons_append, List.count_append, List.count_singleton]; simp
        rw [hcnt] at this
        rw [if_neg ht]; omega
      · rw [if_neg h1] at h
        have h1' : closerOf t.text = [] := by simpa using h1
        have hop : ¬ closerOf t.text = c := fun e => closer_ne hc (by rw [← e, h1'])
        rw [if_neg hop]
        by_cases h2 : isCloser t.text = true
        · rw [if_pos h2] at h
          by_cases h3 : (c :: st).getLast? = some t.text
          · rw [if_pos h3] at h
            by_cases h4 : (c :: st).length = 1
            · rw [if_pos h4] at h
              injection h with h _
              omega
            · rw [if_neg h4] at h
              have hs : st ≠ [] := by intro e; subst e; exact h4 rfl
              have hl := count_last c t.text _ h3
              rw [List.dropLast_cons_of_ne_nil hs] at h hl
              have hij := (go_count r _ _ _ h).1
              have := go_bottom c hc r _ _ _ h p (by omega)
              omega
          · rw [if_neg h3] at h; simp at h
        · rw [if_neg h2] at h
          have ht : ¬ t.text = c := fun e => h2 (by rw [e]; exact hc)
          have hij := (go_count r _ _ _ h).1
          have := go_bottom c hc r _ _ _ h p (by omega)
          rw [if_neg ht]; omega
/-- Only the texts count. -/
theorem matchGo_texts : ∀ (a b : List Tok) (st : List Bs) (i : Nat), a.map (·.text) = b.map (·.text) → matchGo st i a = matchGo st i b
  | [], [], _, _, _ => rfl
  | t :: r, u :: q, st, i, h => by
    simp only [List.map_cons, List.cons.injEq] at h
    rw [matchGo, matchGo, h.1, matchGo_texts r q _ _ h.2, matchGo_texts r q _ _ h.2, matchGo_texts r q _ _ h.2]
  | [], _ :: _, _, _, h => by simp at h
  | _ :: _, [], _, _, h => by simp at h
/-- A closing bracket of another kind, put in before the first one is closed: it is not closed any more. -/
theorem go_wrong (l : List Tok) (x : Tok) (m a : Nat) (h : matchGo [] 0 l = (m, 0)) (h0 : 0 < l.length) (ho : closerOf (tg l 0).text ≠ []) (hx : isCloser x.text = true) (hne : x.text ≠ closerOf (tg l 0).text) (ha : 1 ≤ a) (ham : a ≤ m) :
    matchGo [] 0 (l.take a ++ x :: l.drop a) = (0, 9) := by
  rcases matchGo_cases (l.take a ++ x :: l.drop a) [] 0 with hw | ⟨j, hw⟩
  · exact hw
  exfalso
  obtain ⟨c0, hc0⟩ : ∃ c, c = closerOf (tg l 0).text := ⟨_, rfl⟩
  have hcc : isCloser c0 = true := by rw [hc0]; exact (open_closer ho).1
  obtain ⟨_, hml, hB⟩ := go_count l [] 0 m h
  obtain ⟨_, hjl, hD⟩ := go_count _ [] 0 j hw
  simp only [Nat.sub_zero, List.count_nil, Nat.zero_add] at hml hB hjl hD
  have hA : ∀ q, 1 ≤ q → q ≤ m → clC c0 (l.take q) + 1 ≤ opC c0 (l.take q) := by
    intro q h1 h2
    have e := tg_drop l 0 h0
    rw [List.drop_zero] at e
    have h' := h
    rw [e, matchGo, if_pos ho] at h'
    have := go_bottom (closerOf (tg l 0).text) (by rw [← hc0]; exact hcc) _ [] 1 m h' (q - 1) (by omega)
    rw [← hc0] at this
    have hs : (c0 :: ([] : List Bs)).count c0 = 1 := by simp
    rw [hs] at this
    have e2 : l.take q = tg l 0 :: (l.drop 1).take (q - 1) := by
      obtain ⟨k, rfl⟩ : ∃ k, q = k + 1 := ⟨q - 1, by omega⟩
      exact (congrArg (List.take (k + 1)) e).trans (List.take_succ_cons ..)
    have ht : ¬ (tg l 0).text = c0 := by
      intro e3; have := (open_closer ho).2; rw [e3, hcc] at this; cases this
    rw [e2, clC_cons, opC_cons, if_neg ht, if_pos hc0.symm]
    simp only [Nat.zero_add] at this
    omega
  have hlow : ∀ n, n ≤ a → (l.take a ++ x :: l.drop a).take n = l.take n := by
    intro n hn
    rw [List.take_append_of_le_length (by simp; omega), List.take_take, Nat.min_eq_left hn]
  have hhigh : ∀ c n, a ≤ n → clC c ((l.take a ++ x :: l.drop a).take (n + 1)) = clC c (l.take n) + (if x.text = c then 1 else 0) ∧ opC c ((l.take a ++ x :: l.drop a).take (n + 1)) = opC c (l.take n) + (if closerOf x.text = c then 1 else 0) := by
    intro c n hn
    have e1 : (l.take a ++ x :: l.drop a).take (n + 1) = l.take a ++ x :: (l.drop a).take (n - a) := by
      rw [List.take_append, List.take_of_length_le (by simp; omega), List.length_take, Nat.min_eq_left (by omega), show n + 1 - a = (n - a) + 1 by omega, List.take_succ_cons]
    have e2 : l.take n = l.take a ++ (l.drop a).take (n - a) := by
      rw [← List.take_append_drop a (l.take n), List.take_take, Nat.min_eq_left hn, List.drop_take]
    rw [e1, e2, clC_append, clC_append, opC_append, opC_append, clC_cons, opC_cons]
    constructor <;> omega
  have hxo : closerOf x.text = [] := closer_not_open hx
  rcases Nat.lt_or_ge j a with hj | hj
  · have := (hD c0 hcc).2
    rw [hlow _ (by omega)] at this
    have := hA (j + 1) (by omega) (by omega)
    omega
  · have h1 := (hD c0 hcc).2
    obtain ⟨e1, e2⟩ := hhigh c0 j hj
    rw [e1, e2, if_neg (by rw [hc0]; exact hne), if_neg (by rw [hxo]; exact fun e => closer_ne hcc e.symm)] at h1
    rcases Nat.lt_or_ge m j with hm | hm
    · have h2 := hB x.text hx
      obtain ⟨e3, e4⟩ := hhigh x.text (m + 1) (by omega)
      rw [if_pos rfl] at e3
      rw [if_neg (by rw [hxo]; exact fun e => closer_ne hx e.symm)] at e4
      rcases Nat.eq_or_lt_of_le hm with hm | hm
      · have h3 := (hD x.text hx).2
        rw [show j + 1 = m + 1 + 1 by omega, e3, e4] at h3
        omega
      · have h3 := (hD x.text hx).1 (m + 1 + 1) (by omega)
        rw [e3, e4] at h3
        omega
    · have := hA j (by omega) hm
      omega
/-- Signs so far, what is open, and where each is closed. -/
structure Paired (l : List Tok) (op : List Nat) (cl : Nat → Nat) : Prop where
  toks : ∀ i, i < l.length → (tg l i).kind = 4 ∧ (tg l i).at_ = 2 * (i : Int) ∧ isSign (tg l i).text = true
  sorted : op.Pairwise (· < ·)
  opn : ∀ q ∈ op, q < l.length ∧ closerOf (tg l q).text ≠ [] ∧ cl q = 0
  go : ∀ a, a < op.length → ∀ r, matchGo [] (op.getD a 0) ((l ++ r).drop (op.getD a 0)) = matchGo ((op.drop a).map fun q => closerOf (tg l q).text) l.length r
  hit : ∀ i, cl i ≠ 0 → i < cl i ∧ cl i < l.length ∧ closerOf (tg l i).text ≠ [] ∧ (∀ r, matchGo [] i ((l ++ r).drop i) = (cl i, 0)) ∧ ∀ k, i < k → k < cl i → cl k ≤ cl i ∧ k ∉ op
  all : ∀ i, i < l.length → closerOf (tg l i).text ≠ [] → cl i = 0 → i ∈ op
theorem Paired.nil : Paired [] [] (fun _ => 0) :=
  ⟨fun _ h => (by cases h), List.Pairwise.nil, fun _ h => (by cases h), fun _ h => (by cases h), fun _ h => absurd rfl h, fun _ h => (by cases h)⟩
theorem tg_left (l r : List Tok) (i : Nat) (h : i < l.length) : tg (l ++ r) i = tg l i := by simp [tg, List.getD_eq_getElem?_getD, List.getElem?_append_left h]
theorem tg_last (l : List Tok) (t : Tok) : tg (l ++ [t]) l.length = t := by simp [tg]
theorem map_texts (l : List Tok) (t : Tok) (op : List Nat) (h : ∀ q ∈ op, q < l.length) : (op.map fun q => closerOf (tg (l ++ [t]) q).text) = op.map fun q => closerOf (tg l q).text :=
  List.map_congr_left fun q hq => by rw [tg_left l _ q (h q hq)]
theorem paired_toks {l : List Tok} {x : Bs} (h : ∀ i, i < l.length → (tg l i).kind = 4 ∧ (tg l i).at_ = 2 * (i : Int) ∧ isSign (tg l i).text = true) (hx : isSign x = true) :
    ∀ i, i < (l ++ [(⟨4, x, 2 * (l.length : Int)⟩ : Tok)]).length → (tg (l ++ [⟨4, x, 2 * (l.length : Int)⟩]) i).kind = 4 ∧ (tg (l ++ [⟨4, x, 2 * (l.length : Int)⟩]) i).at_ = 2 * (i : Int) ∧ isSign (tg (l ++ [⟨4, x, 2 * (l.length : Int)⟩]) i).text = true := by
  intro i hi
  by_cases h2 : i < l.length
  · rw [tg_left l _ i h2]; exact h i h2
  · have : i = l.length := by simp at hi; omega
    subst this
    rw [tg_last]; exact ⟨rfl, rfl, hx⟩
/-- A sign that is no bracket. -/
theorem Paired.plus {l : List Tok} {op : List Nat} {cl : Nat → Nat} (h : Paired l op cl) : Paired (l ++ [⟨4, [43], 2 * (l.length : Int)⟩]) op cl := by
  have hlt : ∀ q ∈ op, q < l.length := fun q hq => (h.opn q hq).1
  refine ⟨paired_toks h.toks (by decide), h.sorted, fun q hq => ?_, fun a ha r => ?_, fun i hi => ?_, fun i hi hc h0 => ?_⟩
  · obtain ⟨h1, h2, h3⟩ := h.opn q hq
    exact ⟨by simp; omega, by rw [tg_left l _ q h1]; exact h2, h3⟩
  · rw [List.append_assoc, h.go a ha, List.singleton_append, matchGo, if_neg (by show ¬ closerOf [43] ≠ []; decide), if_neg (by show ¬ isCloser [43] = true; decide), map_texts l _ _ (fun q hq => hlt q (List.mem_of_mem_drop hq))]
    simp
  · obtain ⟨h1, h2, h3, h4, h5⟩ := h.hit i hi
    exact ⟨h1, by simp; omega, by rw [tg_left l _ i (by omega)]; exact h3, fun r => by rw [List.append_assoc]; exact h4 _, h5⟩
  · by_cases h2 : i < l.length
    · rw [tg_left l _ i h2] at hc; exact h.all i h2 hc h0
    · have : i = l.length := by simp at hi; omega
      subst this
      rw [tg_last] at hc
      exact absurd (show closerOf [43] = [] by decide) hc
/-- A bracket that opens. -/
theorem Paired.opens {l : List Tok} {op : List Nat} {cl : Nat → Nat} (h : Paired l op cl) (x : Bs) (hx : isSign x = true) (hc : closerOf x ≠ []) : Paired (l ++ [⟨4, x, 2 * (l.length : Int)⟩]) (op ++ [l.length]) cl := by
  have hlt : ∀ q ∈ op, q < l.length := fun q hq => (h.opn q hq).1
  have hcl : cl l.length = 0 := by
    rcases Nat.eq_zero_or_pos (cl l.length) with h0 | h0
    · exact h0
    · have := h.hit l.length (by omega); omega
  refine ⟨paired_toks h.toks hx, ?_, fun q hq => ?_, fun a ha r => ?_, fun i hi => ?_, fun i hi hc2 h0 => ?_⟩
  · rw [List.pairwise_append]
    exact ⟨h.sorted, List.pairwise_singleton _ _, fun a ha b hb => by rw [List.mem_singleton.1 hb]; exact hlt a ha⟩
  · rcases List.mem_append.1 hq with hq | hq
    · obtain ⟨h1, h2, h3⟩ := h.opn q hq
      exact ⟨by simp; omega, by rw [tg_left l _ q h1]; exact h2, h3⟩
    · rw [List.mem_singleton.1 hq]
      exact ⟨by simp, by rw [tg_last]; exact hc, hcl⟩
  · by_cases h2 : a < op.length
    · have e1 : (op ++ [l.length]).getD a 0 = op.getD a 0 := by simp [List.getD_eq_getElem?_getD, List.getElem?_append_left h2]
      rw [e1, List.append_assoc, h.go a h2, List.singleton_append, matchGo, if_pos hc, List.drop_append_of_le_length (by omega), List.map_append, map_texts l _ _ (fun q hq => hlt q (List.mem_of_mem_drop hq))]
      simp [tg_last]
    · have : a = op.length := by simp at ha; omega
      subst this
      have e1 : (op ++ [l.length]).getD op.length 0 = l.length := by simp [List.getD_eq_getElem?_getD]
      rw [e1, List.append_assoc, List.drop_left, List.singleton_append, matchGo, if_pos hc, List.drop_left, List.nil_append]
      simp [tg_last]
  · obtain ⟨h1, h2, h3, h4, h5⟩ := h.hit i hi
    refine ⟨h1, by simp; omega, by rw [tg_left l _ i (by omega)]; exact h3, fun r => by rw [List.append_assoc]; exact h4 _, fun k k1 k2 => ⟨(h5 k k1 k2).1, fun hk => ?_⟩⟩
    rcases List.mem_append.1 hk with hk | hk
    · exact (h5 k k1 k2).2 hk
    · have := List.mem_singleton.1 hk; omega
  · by_cases h2 : i < l.length
    · rw [tg_left l _ i h2] at hc2; exact List.mem_append_left _ (h.all i h2 hc2 h0)
    · have : i = l.length := by simp at hi; omega
      subst this
      exact List.mem_append_right _ (List.mem_singleton.2 rfl)
def setAt (cl : Nat → Nat) (q n : Nat) : Nat → Nat := fun i => if i = q then n else cl i
/-- The bracket that closes the last one that is open. -/
theorem Paired.closes {l : List Tok} {op : List Nat} {cl : Nat → Nat} {q : Nat} (h : Paired l (op ++ [q]) cl) (x : Bs) (hx : isSign x = true) (hc : closerOf (tg l q).text = x) : Paired (l ++ [⟨4, x, 2 * (l.length : Int)⟩]) op (setAt cl q l.length) := by
  have hlt : ∀ p ∈ op ++ [q], p < l.length := fun p hp => (h.opn p hp).1
  obtain ⟨hq1, hq2, hq3⟩ := h.opn q (List.mem_append_right _ (List.mem_singleton.2 rfl))
  have hxc : isCloser x = true := by rw [← hc]; exact (open_closer hq2).1
  have hxo := closer_not_open hxc
  have hs := List.pairwise_append.1 h.sorted
  have hqop : ∀ p ∈ op, p < q := fun p hp => hs.2.2 p hp q (List.mem_singleton.2 rfl)
  have hmax : ∀ k, cl k < l.length := by
    intro k
    rcases Nat.eq_zero_or_pos (cl k) with h0 | h0
    · omega
    · exact (h.hit k (by omega)).2.1
  have hstack : ∀ a, a < op.length + 1 → (((op ++ [q]).drop a).map fun q => closerOf (tg l q).text) = ((op.drop a).map fun q => closerOf (tg l q).text) ++ [x] := by
    intro a ha
    rw [List.drop_append_of_le_length (by omega), List.map_append]
    simp [hc]
  refine ⟨paired_toks h.toks hx, hs.1, fun p hp => ?_, fun a ha r => ?_, fun i hi => ?_, fun i hi hc2 h0 => ?_⟩
  · obtain ⟨h1, h2, h3⟩ := h.opn p (List.mem_append_left _ hp)
    refine ⟨by simp; omega, by rw [tg_left l _ p h1]; exact h2, ?_⟩
    have := hqop p hp
    unfold setAt
    rw [if_neg (by omega)]; exact h3
  · have e1 : (op ++ [q]).getD a 0 = op.getD a 0 := by simp [List.getD_eq_getElem?_getD, List.getElem?_append_left ha]
    have hg := h.go a (by simp; omega) ([⟨4, x, 2 * (l.length : Int)⟩] ++ r)
    rw [e1] at hg
    rw [List.append_assoc, hg, hstack a (by omega), List.singleton_append, matchGo, if_neg (by simpa using hxo), if_pos hxc, if_pos (by simp), if_neg (by simp; omega), List.dropLast_concat, map_texts l _ _ (fun p hp => hlt p (List.mem_append_left _ (List.mem_of_mem_drop hp)))]
    simp
  · unfold setAt at hi ⊢
    by_cases e : i = q
    · subst e
      simp only [if_true] at hi ⊢
      have hg := h.go op.length (by simp)
      have e1 : (op ++ [i]).getD op.length 0 = i := by simp [List.getD_eq_getElem?_getD]
      rw [e1] at hg
      refine ⟨hq1, by simp, by rw [tg_left l _ i hq1]; exact hq2, fun r => ?_, fun k k1 k2 => ?_⟩
      · rw [List.append_assoc, hg, hstack _ (by omega), List.singleton_append, matchGo, if_neg (by simpa using hxo), if_pos hxc, if_pos (by simp), if_pos (by simp)]
      · rw [if_neg (by omega)]
        refine ⟨Nat.le_of_lt (hmax k), fun hk => ?_⟩
        have := hqop k hk; omega
    · rw [if_neg e] at hi ⊢
      obtain ⟨h1, h2, h3, h4, h5⟩ := h.hit i hi
      refine ⟨h1, by simp; omega, by rw [tg_left l _ i (by omega)]; exact h3, fun r => by rw [List.append_assoc]; exact h4 _, fun k k1 k2 => ?_⟩
      obtain ⟨g1, g2⟩ := h5 k k1 k2
      have hkq : k ≠ q := fun e => g2 (by rw [e]; exact List.mem_append_right _ (List.mem_singleton.2 rfl))
      rw [if_neg hkq]
      exact ⟨g1, fun hk => g2 (List.mem_append_left _ hk)⟩
  · unfold setAt at h0
    by_cases h2 : i < l.length
    · rw [tg_left l _ i h2] at hc2
      by_cases e : i = q
      · rw [if_pos e] at h0; omega
      · rw [if_neg e] at h0
        rcases List.mem_append.1 (h.all i h2 hc2 h0) with h3 | h3
        · exact h3
        · exact absurd (List.mem_singleton.1 h3) e
    · have : i = l.length := by simp at hi; omega
      subst this
      rw [tg_last] at hc2
      exact absurd hxo hc2
theorem Paired.max {l : List Tok} {op : List Nat} {cl : Nat → Nat} (h : Paired l op cl) (k : Nat) : cl k = 0 ∨ (k < cl k ∧ cl k < l.length) := by
  rcases Nat.eq_zero_or_pos (cl k) with h0 | h0
  · exact .inl h0
  · have := h.hit k (by omega); exact .inr ⟨this.1, this.2.1⟩
/-- The tokens are ones. -/
theorem fits_from (b : Tok) : ∀ (l : List Tok) (from_ : Int), (∀ i, i < l.length → (tg l i).kind = 4 ∧ (tg l i).at_ = from_ + 2 * (i : Int) ∧ isSign (tg l i).text = true) → 0 ≤ from_ → (b.text.length : Int) ≤ from_ - b.at_ → fitsAll b l = true
  | [], _, _, _, _ => rfl
  | t :: r, from_, h, h0, hb => by
    obtain ⟨h1, h2, h3⟩ := h 0 (by simp)
    have e0 : tg (t :: r) 0 = t := rfl
    rw [e0] at h1 h2 h3
    obtain ⟨k1, k2⟩ := isSign_kind h3
    rw [fitsAll, Bool.and_eq_true]
    constructor
    · unfold fitsB
      rw [k1, h1]
      simp only [Bool.and_eq_true, decide_eq_true_eq]
      exact ⟨⟨by decide, by omega⟩, by omega⟩
    · refine fits_from t r (from_ + 2) (fun i hi => ?_) (by omega) (by omega)
      have := h (i + 1) (by simp; omega)
      have e : tg (t :: r) (i + 1) = tg r i := by simp [tg]
      rw [e] at this
      exact ⟨this.1, by omega, this.2.2⟩
theorem Paired.check {l : List Tok} {op : List Nat} {cl : Nat → Nat} (h : Paired l op cl) (hl : l.length ≤ 100) : checkToks l = 0 := by
  have hf : fitsAll tok0 l = true := fits_from tok0 l 0 (fun i hi => by have := h.toks i hi; exact ⟨this.1, by omega, this.2.2⟩) (by omega) (by decide)
  refine checkToks_ok l (by omega) hf ?_
  rcases lastTok_cases l l.length (Nat.le_refl _) with ⟨e, _⟩ | ⟨k, _, hk, e⟩
  · rw [List.take_length] at e; rw [e]; decide
  · rw [List.take_length] at e
    rw [e]
    obtain ⟨_, h2, h3⟩ := h.toks k hk
    have := (isSign_kind h3).2
    rw [h2, this]; omega
theorem Paired.ok {l : List Tok} {op : List Nat} {cl : Nat → Nat} (h : Paired l op cl) (hl : l.length ≤ 100) : TokOk l := by
  intro t ht
  obtain ⟨i, hi, rfl⟩ := List.getElem_of_mem ht
  obtain ⟨_, h2, h3⟩ := h.toks i hi
  rw [tg_eq l i hi] at h2 h3
  have := (isSign_kind h3).2
  refine ⟨by omega, ?_⟩
  unfold inI64; omega
theorem Paired.match_hit {l : List Tok} {op : List Nat} {cl : Nat → Nat} (h : Paired l op cl) (hl : l.length ≤ 100) (i : Nat) (hi : cl i ≠ 0) : matchOf l i = (cl i, 0) := by
  obtain ⟨h1, h2, h3, h4, _⟩ := h.hit i hi
  rw [matchOf_go l i (h.check hl) (by omega) h3]
  have := h4 []
  rwa [List.append_nil] at this
theorem Paired.match_open {l : List Tok} {op : List Nat} {cl : Nat → Nat} (h : Paired l op cl) (hl : l.length ≤ 100) (i : Nat) (hil : i < l.length) (hc : closerOf (tg l i).text ≠ []) (hi : cl i = 0) : matchOf l i = (0, 9) := by
  rw [matchOf_go l i (h.check hl) hil hc]
  obtain ⟨a, ha, he⟩ := List.getElem_of_mem (h.all i hil hc hi)
  have hg := h.go a ha []
  have e : op.getD a 0 = i := by simp [List.getD_eq_getElem?_getD, ha, he]
  rw [e, List.append_nil] at hg
  rw [hg]; rfl
theorem Paired.match_none {l : List Tok} {op : List Nat} {cl : Nat → Nat} (h : Paired l op cl) (hl : l.length ≤ 100) (i : Nat) (hc : closerOf (tg l i).text = []) : matchOf l i = (0, 7) := by
  exact matchOf_none l i (h.check hl) (.inr (.inr (by simpa using hc)))
/-- What is put in, with what follows moved on. -/
def movedT (t : Tok) : Tok := ⟨t.kind, t.text, t.at_ + 1002⟩
def wrongOf (l : List Tok) (a : Nat) (x : Bs) : List Tok := l.take a ++ ⟨4, x, 1000⟩ :: (l.drop a).map movedT
theorem wrong_len (l : List Tok) (a : Nat) (x : Bs) (ha : a ≤ l.length) : (wrongOf l a x).length = l.length + 1 := by unfold wrongOf; simp; omega
theorem Paired.wrong_check {l : List Tok} {op : List Nat} {cl : Nat → Nat} (h : Paired l op cl) (hl : l.length ≤ 100) (a : Nat) (x : Bs) (hx : isSign x = true) (ha : a ≤ l.length) (h1 : 1 ≤ a) : checkToks (wrongOf l a x) = 0 := by
  have hk := isSign_kind hx
  have h2 : fitsAll tok0 (l.take a) = true := by
    refine fits_from tok0 _ 0 (fun i hi => ?_) (by omega) (by decide)
    have hi2 : i < l.length := by simp at hi; omega
    have e : tg (l.take a) i = tg l i := by
      simp only [tg, List.getD_eq_getElem?_getD]
      rw [List.getElem?_take_of_lt (by simp at hi; omega)]
    rw [e]
    have := h.toks i hi2; exact ⟨this.1, by omega, this.2.2⟩
  obtain ⟨k, rfl⟩ : ∃ k, a = k + 1 := ⟨a - 1, by omega⟩
  have h3 := lastTok_take l k (by omega)
  obtain ⟨_, t2, t3⟩ := h.toks k (by omega)
  have t4 := (isSign_kind t3).2
  have h5 : fitsAll (⟨4, x, 1000⟩ : Tok) ((l.drop (k + 1)).map movedT) = true := by
    refine fits_from _ _ (1002 + 2 * ((k + 1 : Nat) : Int)) (fun i hi => ?_) (by omega) ?_
    · have hi2 : k + 1 + i < l.length := by simp at hi; omega
      have e : tg ((l.drop (k + 1)).map movedT) i = movedT (tg l (k + 1 + i)) := by
        simp [tg, List.getD_eq_getElem?_getD, hi2]
      rw [e]
      have := h.toks _ hi2
      exact ⟨this.1, by show (tg l (k + 1 + i)).at_ + 1002 = _; omega, this.2.2⟩
    · show (x.length : Int) ≤ _ - 1000
      omega
  refine checkToks_ok _ (by rw [wrong_len _ _ _ ha]; omega) ?_ ?_
  · unfold wrongOf
    rw [fitsAll_append, h2, h3, Bool.true_and, fitsAll, Bool.and_eq_true]
    refine ⟨?_, h5⟩
    unfold fitsB
    simp only [Bool.and_eq_true, decide_eq_true_eq, hk.1]
    exact ⟨⟨⟨by decide, by decide⟩, by decide⟩, by omega⟩
  · rcases lastTok_cases (wrongOf l (k + 1) x) _ (Nat.le_refl _) with ⟨e, e2⟩ | ⟨j, _, hj, e⟩
    · rw [wrong_len _ _ _ ha] at e2; omega
    · rw [List.take_length] at e
      rw [e]
      have hall : ∀ t ∈ wrongOf l (k + 1) x, t.text.length = 1 ∧ t.at_ ≤ 1202 := by
        intro t ht
        unfold wrongOf at ht
        rcases List.mem_append.1 ht with ht | ht
        · obtain ⟨i, hi, rfl⟩ := List.getElem_of_mem (List.mem_of_mem_take ht)
          obtain ⟨_, q2, q3⟩ := h.toks i hi
          rw [tg_eq l i hi] at q2 q3
          exact ⟨(isSign_kind q3).2, by omega⟩
        · rcases List.mem_cons.1 ht with ht | ht
          · rw [ht]; exact ⟨hk.2, by show (1000 : Int) ≤ 1202; decide⟩
          · obtain ⟨u, hu, rfl⟩ := List.mem_map.1 ht
            obtain ⟨i, hi, rfl⟩ := List.getElem_of_mem (List.mem_of_mem_drop hu)
            obtain ⟨_, q2, q3⟩ := h.toks i hi
            rw [tg_eq l i hi] at q2 q3
            exact ⟨(isSign_kind q3).2, by show l[i].at_ + 1002 ≤ _; omega⟩
      have := hall _ (tg_mem _ j hj)
      omega
theorem Paired.wrong {l : List Tok} {op : List Nat} {cl : Nat → Nat} (h : Paired l op cl) (hl : l.length ≤ 100) (a : Nat) (x : Bs) (hx : isSign x = true) (hxc : isCloser x = true) (h0 : cl 0 ≠ 0) (hne : x ≠ closerOf (tg l 0).text) (h1 : 1 ≤ a) (ha : a ≤ cl 0) : matchOf (wrongOf l a x) 0 = (0, 9) := by
  obtain ⟨g1, g2, g3, g4, _⟩ := h.hit 0 h0
  have hlen := wrong_len l a x (by omega)
  have e0 : tg (wrongOf l a x) 0 = tg l 0 := by
    unfold wrongOf
    rw [tg_left _ _ 0 (by simp; omega)]
    simp only [tg, List.getD_eq_getElem?_getD]
    rw [List.getElem?_take_of_lt (by omega)]
  have hm := matchOf_go (wrongOf l a x) 0 (h.wrong_check hl a x hx (by omega) h1) (by omega) (by rw [e0]; exact g3)
  rw [show ((0 : Nat) : Int) = 0 from rfl] at hm
  rw [hm, List.drop_zero]
  have hgo := g4 []
  rw [List.append_nil, List.drop_zero] at hgo
  rw [← go_wrong l ⟨4, x, 1000⟩ (cl 0) a hgo (by omega) g3 hxc hne h1 ha]
  refine matchGo_texts _ _ _ _ ?_
  unfold wrongOf
  simp [movedT, Function.comp_def]
end Mist
