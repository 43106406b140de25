/-
  PLAIN LAWS of chapter 1: the place of an offset, counted byte by byte, and back.
-/
import Derived.Test.YtfdcimkdhioepaaCPlain4
namespace Mist
/-- One byte further. -/
def posStep (p : Nat × Nat) (b : UInt8) : Nat × Nat := if b = 10 then (p.1 + 1, 1) else (p.1, p.2 + 1)
def posAt (s : Bs) (n : Nat) : Nat × Nat := (s.take n).foldl posStep (1, 1)
theorem posAt_zero (s : Bs) : posAt s 0 = (1, 1) := rfl
theorem posAt_succ (s : Bs) (n : Nat) (h : n < s.length) : posAt s (n + 1) = posStep (posAt s n) (gt s n) := by
  unfold posAt; rw [take_gt s n h, List.foldl_append]; rfl
theorem posAt_feed (s : Bs) (n : Nat) (h : n < s.length) (e : gt s n = 10) : posAt s (n + 1) = ((posAt s n).1 + 1, 1) := by
  rw [posAt_succ s n h, posStep, if_pos e]
theorem posAt_other (s : Bs) (n : Nat) (h : n < s.length) (e : gt s n ≠ 10) : posAt s (n + 1) = ((posAt s n).1, (posAt s n).2 + 1) := by
  rw [posAt_succ s n h, posStep, if_neg e]
theorem linesFrom_head : ∀ (s : Bs) (f i : Nat), ∃ t r, linesFrom f i s = (f, t) :: r ∧ i ≤ t
  | [], f, i => ⟨i, [], rfl, Nat.le_refl _⟩
  | b :: r, f, i => by
    rw [linesFrom]
    split
    · exact ⟨i, _, rfl, Nat.le_refl _⟩
    · obtain ⟨t, l, h, h2⟩ := linesFrom_head r f (i + 1)
      exact ⟨t, l, h, by omega⟩
/-- The line that is found around an offset: its number and its begin, counted; it is in the list at its number. -/
structure Around (L : List (Nat × Nat)) (n a : Nat) (r : (Nat × Nat) × Nat) : Prop where
  num : n < r.2 ∧ r.2 ≤ n + L.length
  hit : L[r.2 - n - 1]? = some r.1
  le : r.1.1 ≤ a ∧ a ≤ r.1.2
theorem around_in : ∀ (r : Bs) (f i n k : Nat), f ≤ i → k ≤ r.length → Around (linesFrom f i r) n (i + k) (aroundGo n ((i + k : Nat) : Int) (linesFrom f i r))
  | [], f, i, n, k, hf, hk => by
    obtain rfl : k = 0 := by simpa using hk
    rw [linesFrom, aroundGo, if_pos (by simp)]
    exact ⟨by simp, by simp, by simpa using hf⟩
  | b :: r, f, i, n, k, hf, hk => by
    rw [linesFrom]
    split
    · rw [aroundGo]
      split
      · rename_i h
        simp only at h
        exact ⟨by simp, by simp, ⟨by simp only; omega, by simp only; omega⟩⟩
      · rename_i h
        simp only at h
        obtain ⟨m, rfl⟩ : ∃ m, k = m + 1 := ⟨k - 1, by omega⟩
        have ih := around_in r (i + 1) (i + 1) (n + 1) m (Nat.le_refl _) (by simpa using hk)
        rw [show i + 1 + m = i + (m + 1) by omega] at ih
        obtain ⟨h1, h2, h3⟩ := ih
        refine ⟨⟨by omega, by rw [List.length_cons]; omega⟩, ?_, h3⟩
        rw [← h2]
        obtain ⟨x, hx⟩ : ∃ x, x = (aroundGo (n + 1) ((i + (m + 1) : Nat) : Int) (linesFrom (i + 1) (i + 1) r)).2 := ⟨_, rfl⟩
        rw [← hx] at h1 ⊢
        rw [show x - n - 1 = (x - (n + 1) - 1) + 1 by omega, List.getElem?_cons_succ]
    · rcases Nat.eq_zero_or_pos k with rfl | h0
      · obtain ⟨t, l, h1, h2⟩ := linesFrom_head r f (i + 1)
        rw [h1, aroundGo, if_pos (by simp only; omega)]
        exact ⟨by simp, by simp, ⟨by simp only; omega, by simp only; omega⟩⟩
      · obtain ⟨m, rfl⟩ : ∃ m, k = m + 1 := ⟨k - 1, by omega⟩
        have ih := around_in r f (i + 1) n m (by omega) (by simpa using hk)
        rw [show i + 1 + m = i + (m + 1) by omega] at ih
        exact ih
theorem around_pos : ∀ (r : Bs) (f i n k : Nat), f ≤ i → k ≤ r.length →
    ((aroundGo n ((i + k : Nat) : Int) (linesFrom f i r)).2, i + k - (aroundGo n ((i + k : Nat) : Int) (linesFrom f i r)).1.1 + 1) = (r.take k).foldl posStep (n + 1, i - f + 1)
  | [], f, i, n, k, hf, hk => by
    obtain rfl : k = 0 := by simpa using hk
    rw [linesFrom, aroundGo, if_pos (by simp)]
    simp
  | b :: r, f, i, n, k, hf, hk => by
    rw [linesFrom]
    split
    · rename_i hb
      rw [aroundGo]
      split
      · rename_i h
        simp only at h
        obtain rfl : k = 0 := by omega
        simp
      · rename_i h
        simp only at h
        obtain ⟨m, rfl⟩ : ∃ m, k = m + 1 := ⟨k - 1, by omega⟩
        have ih := around_pos r (i + 1) (i + 1) (n + 1) m (Nat.le_refl _) (by simpa using hk)
        rw [show i + 1 + m = i + (m + 1) by omega] at ih
        rw [ih, List.take_succ_cons, List.foldl_cons]
        have : posStep (n + 1, i - f + 1) b = (n + 1 + 1, i + 1 - (i + 1) + 1) := by rw [posStep, if_pos hb]; simp
        rw [this]
    · rename_i hb
      rcases Nat.eq_zero_or_pos k with rfl | h0
      · obtain ⟨t, l, h1, h2⟩ := linesFrom_head r f (i + 1)
        rw [h1, aroundGo, if_pos (by simp only; omega)]
        simp
      · obtain ⟨m, rfl⟩ : ∃ m, k = m + 1 := ⟨k - 1, by omega⟩
        have ih := around_pos r f (i + 1) n m (by omega) (by simpa using hk)
        rw [show i + 1 + m = i + (m + 1) by omega] at ih
        rw [ih, List.take_succ_cons, List.foldl_cons]
        have : posStep (n + 1, i - f + 1) b = (n + 1, i + 1 - f + 1) := by rw [posStep, if_neg hb, show i + 1 - f = i - f + 1 by omega]
        rw [this]
theorem aroundOf_around (s : Bs) (a : Nat) (h : a ≤ s.length) : Around (linesOf s) 0 a (aroundOf s a) := by
  have := around_in s 0 0 0 a (Nat.le_refl _) h
  rw [Nat.zero_add] at this; exact this
theorem aroundOf_pos (s : Bs) (a : Nat) (h : a ≤ s.length) : ((aroundOf s a).2, a - (aroundOf s a).1.1 + 1) = posAt s a := by
  have := around_pos s 0 0 0 a (Nat.le_refl _) h
  rw [Nat.zero_add] at this; exact this
theorem placeOf_pos (s : Bs) (a : Nat) (hc : (check s).2 = 0) (h : a ≤ s.length) : placeOf s a = ((((posAt s a).1 : Int), ((posAt s a).2 : Int)), 0) := by
  have he : offErr s a = 0 := by unfold offErr; rw [if_neg (by simpa using hc), if_pos (by omega)]
  have h1 := (aroundOf_around s a h).le
  unfold placeOf
  rw [if_neg (by simpa using he), ← aroundOf_pos s a h]
  simp only [Prod.mk.injEq, and_true, true_and]
  omega
theorem placeOf_bad (s : Bs) (a : Int) (h : (check s).2 ≠ 0) : placeOf s a = ((0, 0), (check s).2) := by
  unfold placeOf offErr; rw [if_pos h, if_pos h]
theorem placeOf_out (s : Bs) (a : Int) (hc : (check s).2 = 0) (h : ¬ (0 ≤ a ∧ a ≤ (s.length : Int))) : placeOf s a = ((0, 0), 3) := by
  have he : offErr s a = 3 := by unfold offErr; rw [if_neg (by simpa using hc), if_neg h]
  unfold placeOf; rw [he]; rfl
theorem offsetOf_hit (s : Bs) (a : Nat) (hc : (check s).2 = 0) (h : a ≤ s.length) : offsetOf s (posAt s a).1 (posAt s a).2 = ((a : Int), 0) := by
  have hA := aroundOf_around s a h
  have hP := aroundOf_pos s a h
  obtain ⟨⟨⟨x, y⟩, m⟩, hr⟩ : ∃ r, r = aroundOf s a := ⟨_, rfl⟩
  rw [← hr] at hA hP
  obtain ⟨⟨h1, h2⟩, h3, h4, h5⟩ := hA
  simp only [Nat.zero_add, Nat.sub_zero] at h1 h2 h3 h4 h5 hP
  have hn : numberedOf s m = ((x, y), 0) := by
    unfold numberedOf
    rw [if_neg (by simpa using hc), if_pos (by omega), Int.toNat_natCast, List.getD_eq_getElem?_getD, h3]; rfl
  rw [← hP]
  unfold offsetOf
  rw [hn]
  simp only
  rw [if_neg (by simp), if_pos (by omega)]
  simp only [Prod.mk.injEq, and_true]
  omega
theorem linesFrom_from : ∀ (s : Bs) (f i : Nat), f ≤ i → ∀ p ∈ linesFrom f i s, f ≤ p.1
  | [], f, i, h, p, hp => by
    simp only [linesFrom, List.mem_singleton] at hp
    subst hp; exact Nat.le_refl _
  | b :: r, f, i, h, p, hp => by
    rw [linesFrom] at hp
    split at hp
    · rcases List.mem_cons.1 hp with rfl | hp
      · exact Nat.le_refl _
      · have := linesFrom_from r (i + 1) (i + 1) (Nat.le_refl _) p hp; omega
    · exact linesFrom_from r f (i + 1) (by omega) p hp
theorem linesFrom_apart : ∀ (s : Bs) (f i : Nat), (linesFrom f i s).Pairwise (fun p q => p.2 < q.1)
  | [], f, i => by simp [linesFrom]
  | b :: r, f, i => by
    rw [linesFrom]
    split
    · refine List.pairwise_cons.2 ⟨fun q hq => ?_, linesFrom_apart r (i + 1) (i + 1)⟩
      have := linesFrom_from r (i + 1) (i + 1) (Nat.le_refl _) q hq
      simp only; omega
    · exact linesFrom_apart r f (i + 1)
theorem aroundOf_line (s : Bs) (k : Nat) (p : Nat × Nat) (h : (linesOf s)[k]? = some p) (a : Nat) (h1 : p.1 ≤ a) (h2 : a ≤ p.2) : aroundOf s a = (p, k + 1) := by
  obtain ⟨hk, he⟩ := List.getElem?_eq_some_iff.1 h
  have hw := List.pairwise_iff_getElem.1 (linesFrom_apart s 0 0)
  have hlen : ((linesOf s).take k).length = k := by rw [List.length_take]; omega
  have hm := linesOf_mem s
  have := aroundOf_hit s a ((linesOf s).take k) p (fun q hq => by
    obtain ⟨j, hj, hjk⟩ := List.mem_take_iff_getElem.1 hq
    have h3 := hw j k (by show j < (linesOf s).length; omega) hk (by omega)
    have h4 : (linesOf s)[j]'(by omega) = q := hjk
    have h5 : (linesFrom 0 0 s)[j]'(by show j < (linesOf s).length; omega) = q := hjk
    have h6 : (linesFrom 0 0 s)[k]'hk = p := he
    rw [h5, h6] at h3
    omega) (by omega) (by
    refine ⟨(linesOf s).drop (k + 1), ?_⟩
    rw [List.append_assoc, List.singleton_append, ← he, ← List.drop_eq_getElem_cons hk, List.take_append_drop])
  rw [hlen] at this
  exact this
/-- A line and a column that no offset has: they have no offset. -/
theorem offsetOf_none (s : Bs) (line col : Int) (hc : (check s).2 = 0) (h : ∀ a, a ≤ s.length → ¬ (((posAt s a).1 : Int) = line ∧ ((posAt s a).2 : Int) = col)) : offsetOf s line col = (0, 3) := by
  unfold offsetOf
  by_cases hk : 1 ≤ line ∧ line ≤ ((linesOf s).length : Int)
  case neg => rw [numberedOf_none s line hc hk]; rfl
  obtain ⟨m, rfl⟩ : ∃ m : Nat, line = (m : Int) + 1 := ⟨(line - 1).toNat, by omega⟩
  have hm : m < (linesOf s).length := by omega
  obtain ⟨⟨x, y⟩, hp⟩ : ∃ p, (linesOf s)[m]? = some p := ⟨_, List.getElem?_eq_getElem hm⟩
  have hn : numberedOf s ((m : Int) + 1) = ((x, y), 0) := by
    unfold numberedOf
    rw [if_neg (by simpa using hc), if_pos (by omega), show ((m : Int) + 1).toNat - 1 = m by omega, List.getD_eq_getElem?_getD, hp]; rfl
  have hxy := linesOf_mem s _ (List.mem_of_getElem? hp)
  rw [hn]
  simp only
  rw [if_neg (by simp)]
  split
  · rename_i hcol
    exfalso
    simp only at hxy
    obtain ⟨a, ha⟩ : ∃ a : Nat, (a : Int) = (x : Int) + col - 1 := ⟨((x : Int) + col - 1).toNat, by omega⟩
    have h1 := aroundOf_line s m (x, y) hp a (by simp only; omega) (by simp only; omega)
    have h2 := aroundOf_pos s a (by omega)
    rw [h1] at h2
    refine h a (by omega) ⟨by rw [← h2]; rfl, by rw [← h2]; simp only; omega⟩
  · rfl
theorem offsetOf_bad (s : Bs) (line col : Int) (h : (check s).2 ≠ 0) : offsetOf s line col = (0, (check s).2) := by
  unfold offsetOf; rw [numberedOf_bad s line h]; simp only; rw [if_pos h]
theorem posAt_le (s : Bs) : ∀ n, n ≤ s.length → (posAt s n).1 ≤ n + 1 ∧ (posAt s n).2 ≤ n + 1 ∧ 1 ≤ (posAt s n).1 ∧ 1 ≤ (posAt s n).2
  | 0, _ => by rw [posAt_zero]; simp
  | n + 1, h => by
    have ih := posAt_le s n (by omega)
    by_cases e : gt s n = 10
    · rw [posAt_feed s n (by omega) e]; simp only; omega
    · rw [posAt_other s n (by omega) e]; simp only; omega
end Mist
