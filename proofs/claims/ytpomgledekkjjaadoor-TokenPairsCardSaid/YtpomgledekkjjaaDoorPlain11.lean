/-
  PLAIN LAWS of chapter 2: where the tokens that were read stand, and what lies between them.
-/
import Derived.Test.YtpomgledekkjjaaDoorPlain4
namespace Mist
theorem skipC_walk (l : Bs) (c : Bool) (n : Nat) (h : n < l.length) (hp : 0 < skipC c (l.drop n)) :
    skipC c (l.drop n) = 1 + skipC ((gt l n == 35) || (c && gt l n != 10)) (l.drop (n + 1)) ∧ (((gt l n == 35) || (c && gt l n != 10)) = false → gapB (gt l n) = true) := by
  rw [drop_gt l n h] at hp ⊢
  generalize gt l n = b at hp ⊢
  cases c
  · by_cases hg : gapB b = true
    · have h35 : (b == 35) = false := by
        rw [Bool.eq_false_iff]; intro e
        have := eq_of_beq e; subst this; simp [gapB] at hg
      simp [skipC, hg, h35]
    · by_cases h35 : (b == 35) = true
      · simp [skipC, hg, h35]
      · simp [skipC, hg, h35] at hp
  · by_cases h10 : (b == 10) = true
    · have := eq_of_beq h10
      subst this
      simp [skipC, gapB]
    · have h10' : (b != 10) = true := by simpa using h10
      simp [skipC, h10, h10']
theorem skipC_done (l : Bs) (c : Bool) (n : Nat) (h : n < l.length) (hp : skipC c (l.drop n) = 0) : c = false := by
  cases c
  · rfl
  · rw [drop_gt l n h, skipC] at hp
    split at hp <;> omega
theorem first_head (s : Bs) (h : (first s).1 ≠ 0) : (first s).2 = s.take (first s).2.length := by
  by_cases h0 : s.length = 0
  · rw [first_empty s h0] at h; exact absurd rfl h
  by_cases hs : smallB (gt s 0) = true
  · have hw := while_le partB s
    by_cases hk : hasB keywords (s.take (while_ partB s)) = true
    · rw [first_kw s h0 hs hk]; simp
    · by_cases hn : while_ partB s ≤ 12
      · rw [first_name s h0 hs hk hn]; simp
      · rw [first_long s h0 hs hk hn] at h; exact absurd rfl h
  · by_cases hd : digitB (gt s 0) = true
    · by_cases hn : isNumber (s.take (while_ digitB s)) = true
      · rw [first_num s h0 hs hd hn]; simp
      · rw [first_nonum s h0 hs hd hn] at h; exact absurd rfl h
    · cases hg : signOf s with
      | none => rw [first_none s h0 hs hd hg] at h; exact absurd rfl h
      | some g =>
        rw [first_sign s h0 hs hd g hg]
        have h2 : prefB g s = true := List.find?_some (p := fun g => prefB g s) hg
        exact List.prefix_iff_eq_take.1 (List.isPrefixOf_iff_prefix.1 h2)
theorem while_take (p : UInt8 → Bool) (s : Bs) : while_ p (s.take (while_ p s)) = while_ p s := by
  induction s with
  | nil => rfl
  | cons b r ih =>
    by_cases h : p b = true
    · unfold while_ at ih ⊢
      rw [List.takeWhile_cons_of_pos h, List.length_cons, List.take_succ_cons, List.takeWhile_cons_of_pos h, List.length_cons, ih]
    · unfold while_
      rw [List.takeWhile_cons_of_neg h]
      rfl
theorem signs_first : ∀ g ∈ signs, first g = (4, g) := by decide +kernel
theorem gt_take0 (s : Bs) (n : Nat) (h : 0 < n) : gt (s.take n) 0 = gt s 0 := by
  cases n with
  | zero => omega
  | succ n => cases s <;> simp [gt]
theorem first_idem (s : Bs) (h : (first s).1 ≠ 0) : first (first s).2 = first s := by
  by_cases h0 : s.length = 0
  · rw [first_empty s h0] at h; exact absurd rfl h
  by_cases hs : smallB (gt s 0) = true
  · have hp := while_pos partB s h0 (by simp [partB, hs])
    have hw := while_le partB s
    have hl : ¬ (s.take (while_ partB s)).length = 0 := by rw [List.length_take]; omega
    have hg : smallB (gt (s.take (while_ partB s)) 0) = true := by rw [gt_take0 s _ hp]; exact hs
    have hww := while_take partB s
    have htt : (s.take (while_ partB s)).take (while_ partB s) = s.take (while_ partB s) := by rw [List.take_take, Nat.min_self]
    by_cases hk : hasB keywords (s.take (while_ partB s)) = true
    · rw [first_kw s h0 hs hk]
      rw [first_kw _ hl hg (by rw [hww, htt]; exact hk), hww, htt]
    · by_cases hn : while_ partB s ≤ 12
      · rw [first_name s h0 hs hk hn]
        rw [first_name _ hl hg (by rw [hww, htt]; exact hk) (by rw [hww]; exact hn), hww, htt]
      · rw [first_long s h0 hs hk hn] at h; exact absurd rfl h
  · by_cases hd : digitB (gt s 0) = true
    · have hp := while_pos digitB s h0 hd
      have hw := while_le digitB s
      have hl : ¬ (s.take (while_ digitB s)).length = 0 := by rw [List.length_take]; omega
      have hg : digitB (gt (s.take (while_ digitB s)) 0) = true := by rw [gt_take0 s _ hp]; exact hd
      have hg2 : ¬ smallB (gt (s.take (while_ digitB s)) 0) = true := by rw [gt_take0 s _ hp]; exact hs
      have hww := while_take digitB s
      have htt : (s.take (while_ digitB s)).take (while_ digitB s) = s.take (while_ digitB s) := by rw [List.take_take, Nat.min_self]
      by_cases hn : isNumber (s.take (while_ digitB s)) = true
      · rw [first_num s h0 hs hd hn]
        rw [first_num _ hl hg2 hg (by rw [hww, htt]; exact hn), hww, htt]
      · rw [first_nonum s h0 hs hd hn] at h; exact absurd rfl h
    · cases hg : signOf s with
      | none => rw [first_none s h0 hs hd hg] at h; exact absurd rfl h
      | some g =>
        rw [first_sign s h0 hs hd g hg]
        exact signs_first g (List.mem_of_find?_eq_some hg)
theorem kind_first_of (s : Bs) (h : (first s).1 ≠ 0) : kind (first s).2 = (first s).1 := by
  unfold kind
  rw [first_idem s h, if_pos rfl]
/-- The tokens stand one behind the other, from a place on, with gaps alone between them, up to the end. -/
def Placed (s : Bs) : Nat → List Tok → Prop
  | a, [] => s.length ≤ a
  | a, t :: r => a < s.length ∧ t.at_ = (a : Int) ∧ first (s.drop a) = (t.kind, t.text) ∧ t.kind ≠ 0 ∧ Placed s (a + t.text.length + skip (s.drop (a + t.text.length))) r
theorem readFrom_placed (s : Bs) : ∀ (f a : Nat) (acc l : List Tok) (x : Nat), s.length < f + a → readFrom f s a acc = (l, x, 0) → ∃ r, l = acc ++ r ∧ Placed s a r
  | 0, a, acc, l, x, hf, h => by
    rw [readFrom] at h
    simp only [Prod.mk.injEq] at h
    exact ⟨[], by rw [h.1]; simp, by show s.length ≤ a; omega⟩
  | f + 1, a, acc, l, x, hf, h => by
    by_cases ha : s.length ≤ a
    · rw [readFrom_end f s a acc ha] at h
      simp only [Prod.mk.injEq] at h
      exact ⟨[], by rw [h.1]; simp, ha⟩
    · by_cases hk : (first (s.drop a)).1 = 0
      · rw [readFrom_none f s a acc ha hk] at h
        simp at h
      · by_cases h8 : acc.length = 800
        · rw [readFrom_full f s a acc ha hk h8] at h
          simp at h
        · rw [readFrom_step f s a acc ha hk h8] at h
          have hl := first_len _ hk
          obtain ⟨r, hr, hp⟩ := readFrom_placed s f _ _ l x (by omega) h
          refine ⟨⟨(first (s.drop a)).1, (first (s.drop a)).2, (a : Int)⟩ :: r, by rw [hr]; simp, by omega, rfl, rfl, hk, hp⟩
theorem read_placed (s : Bs) (h : (Mist.read s).2.2 = 0) : Placed s (skip s) (Mist.read s).1 := by
  by_cases hc : (check s).2 = 0
  · have e : Mist.read s = readFrom (s.length + 1) s (skip s) [] := by unfold Mist.read; rw [if_neg (by simpa using hc)]
    obtain ⟨r, hr, hp⟩ := readFrom_placed s (s.length + 1) (skip s) [] (Mist.read s).1 (Mist.read s).2.1 (by omega) (by rw [← e, ← h])
    rw [hr]; exact hp
  · have e : Mist.read s = ([], (check s).1, (check s).2) := by unfold Mist.read; rw [if_pos hc]
    rw [e] at h
    exact absurd h hc
theorem check_place (s : Bs) : (check s).1 ≤ s.length := by
  unfold check
  split
  · simp; omega
  · cases h : s.findIdx? (fun b => !validB b) with
    | none => simp
    | some i =>
      have := (List.findIdx?_eq_some_iff_getElem.1 h).1
      simp; omega
theorem readFrom_err (s : Bs) : ∀ (f a : Nat) (acc : List Tok), a ≤ s.length → (readFrom f s a acc).2.2 ≠ 0 → (readFrom f s a acc).1 = [] ∧ (readFrom f s a acc).2.1 ≤ s.length
  | 0, a, acc, _, h => by rw [readFrom] at h; exact absurd rfl h
  | f + 1, a, acc, hal, h => by
    by_cases ha : s.length ≤ a
    · rw [readFrom_end f s a acc ha] at h; exact absurd rfl h
    · by_cases hk : (first (s.drop a)).1 = 0
      · rw [readFrom_none f s a acc ha hk]; exact ⟨rfl, hal⟩
      · by_cases h8 : acc.length = 800
        · rw [readFrom_full f s a acc ha hk h8]; exact ⟨rfl, hal⟩
        · rw [readFrom_step f s a acc ha hk h8] at h ⊢
          have hl := first_len _ hk
          rw [List.length_drop] at hl
          have hs := skip_le (s.drop (a + (first (s.drop a)).2.length))
          rw [List.length_drop] at hs
          exact readFrom_err s f _ _ (by omega) h
theorem read_err (s : Bs) (h : (Mist.read s).2.2 ≠ 0) : (Mist.read s).1 = [] ∧ (Mist.read s).2.1 ≤ s.length := by
  by_cases hc : (check s).2 = 0
  · have e : Mist.read s = readFrom (s.length + 1) s (skip s) [] := by unfold Mist.read; rw [if_neg (by simpa using hc)]
    rw [e] at h ⊢
    exact readFrom_err s _ _ _ (skip_le s) h
  · have e : Mist.read s = ([], (check s).1, (check s).2) := by unfold Mist.read; rw [if_pos hc]
    rw [e]
    exact ⟨rfl, check_place s⟩
theorem placed_cons {s : Bs} {a : Nat} {l : List Tok} {i : Nat} (h : i < l.length) (hp : Placed s a (l.drop i)) :
    a < s.length ∧ (tg l i).at_ = (a : Int) ∧ first (s.drop a) = ((tg l i).kind, (tg l i).text) ∧ (tg l i).kind ≠ 0 ∧ Placed s (a + (tg l i).text.length + skip (s.drop (a + (tg l i).text.length))) (l.drop (i + 1)) := by
  rw [tg_drop l i h] at hp; exact hp
theorem placed_nil {s : Bs} {a : Nat} {l : List Tok} {i : Nat} (h : l.length ≤ i) (hp : Placed s a (l.drop i)) : s.length ≤ a := by
  rw [List.drop_eq_nil_of_le h] at hp; exact hp
end Mist
