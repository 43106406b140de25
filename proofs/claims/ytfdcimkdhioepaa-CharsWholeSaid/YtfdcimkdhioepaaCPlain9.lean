/-
  PLAIN LAWS of chapter 1: where a part is found; lines put together again.
-/
import Derived.Test.YtfdcimkdhioepaaCPlain7
import Derived.Test.YtfdcimkdhioepaaCPlain5
namespace Mist
open Go
theorem found_prefix (s x : Bs) (n : Nat) : ∀ k, foundUpTo s x n <+: foundUpTo s x (n + k)
  | 0 => List.prefix_rfl
  | k + 1 => by
    refine (found_prefix s x n k).trans ?_
    by_cases h : x.isPrefixOf (s.drop (n + k)) = true
    · rw [show n + (k + 1) = n + k + 1 by omega, found_yes s x _ h]; exact List.prefix_append _ _
    · rw [show n + (k + 1) = n + k + 1 by omega, found_no s x _ (Bool.eq_false_iff.2 h)]; exact List.prefix_rfl
theorem found_at (s x : Bs) (n N : Nat) (h : n < N) (hp : x.isPrefixOf (s.drop n) = true) : (foundUpTo s x n).length < (foundUpTo s x N).length ∧ (foundUpTo s x N).getD (foundUpTo s x n).length 0 = n := by
  obtain ⟨k, rfl⟩ : ∃ k, N = n + 1 + k := ⟨N - (n + 1), by omega⟩
  obtain ⟨r, hr⟩ := found_prefix s x (n + 1) k
  rw [found_yes s x n hp] at hr
  rw [← hr]
  constructor
  · simp
  · simp [List.getD_eq_getElem?_getD]
theorem found_rest (s x : Bs) (n : Nat) (hx : s.length < n + x.length) (hx0 : 0 < x.length) : ∀ k, foundUpTo s x (n + k) = foundUpTo s x n
  | 0 => rfl
  | k + 1 => by
    rw [show n + (k + 1) = n + k + 1 by omega, found_no s x _ ?_, found_rest s x n hx hx0 k]
    by_cases h : x.isPrefixOf (s.drop (n + k)) = true
    · have := (List.isPrefixOf_iff_prefix.1 h).length_le
      rw [List.length_drop] at this; omega
    · exact Bool.eq_false_iff.2 h
theorem prefix_cut (s x : Bs) (n : Nat) (_h : n + x.length ≤ s.length) : x.isPrefixOf (s.drop n) = true ↔ List.drop n (List.take (n + x.length) s) = x := by
  have e : List.drop n (List.take (n + x.length) s) = (s.drop n).take x.length := by rw [List.drop_take]; congr 1; omega
  rw [e, List.isPrefixOf_iff_prefix, List.prefix_iff_eq_take]
  exact ⟨fun h => h.symm, fun h => h.symm⟩
theorem found_put (s x : Bs) (a : Nat) (ha : a ≤ s.length) (hx : x ≠ []) : a ∈ foundUpTo (outIn s x a a) x (outIn s x a a).length := by
  unfold foundUpTo
  refine List.mem_filter.2 ⟨List.mem_range.2 ?_, ?_⟩
  · rw [outIn_len s x a a (Nat.le_refl _) ha]
    have := List.length_pos_iff.2 hx
    omega
  · rw [List.isPrefixOf_iff_prefix]
    unfold outIn
    rw [List.append_assoc, List.drop_append_of_le_length (by simp; omega), List.drop_of_length_le (by simp; omega), List.nil_append]
    exact List.prefix_append _ _
/-- Lines, with a line feed between each two. -/
def joinF : List Bs → Bs
  | [] => []
  | [x] => x
  | x :: y :: r => x ++ [10] ++ joinF (y :: r)
theorem joinF_cons (x : Bs) (r : List Bs) (h : r ≠ []) : joinF (x :: r) = x ++ [10] ++ joinF r := by
  cases r with
  | nil => exact absurd rfl h
  | cons y r => rfl
theorem joinF_snoc : ∀ (l : List Bs) (x : Bs), l ≠ [] → joinF (l ++ [x]) = joinF l ++ [10] ++ x
  | [], _, h => absurd rfl h
  | [y], x, _ => rfl
  | y :: z :: r, x, _ => by
    rw [List.cons_append, joinF_cons _ _ (by simp), joinF_snoc (z :: r) x (by simp), joinF_cons y (z :: r) (by simp)]
    simp only [List.append_assoc]
theorem linesFrom_ne (f i : Nat) (s : Bs) : linesFrom f i s ≠ [] := by
  obtain ⟨t, r, h, _⟩ := linesFrom_head s f i
  rw [h]; simp
theorem cut_all (s : Bs) (f i : Nat) (h : s.length ≤ i) : cutOf s (f, i) = s.drop f := by unfold cutOf; rw [List.take_of_length_le h]
theorem join_lines (s : Bs) : ∀ (k f i : Nat), s.length - i = k → f ≤ i → i ≤ s.length → joinF ((linesFrom f i (s.drop i)).map (cutOf s)) = s.drop f
  | 0, f, i, hk, hf, hi => by
    rw [linesFrom_end s f i (by omega)]
    show cutOf s (f, i) = _
    rw [cut_all s f i (by omega)]
  | k + 1, f, i, hk, hf, hi => by
    by_cases e : gt s i = 10
    · rw [linesFrom_feed s f i (by omega) e, List.map_cons, joinF_cons _ _ (by simpa using linesFrom_ne _ _ _), join_lines s k (i + 1) (i + 1) (by omega) (Nat.le_refl _) (by omega)]
      have h2 : [10] ++ s.drop (i + 1) = s.drop i := by rw [drop_gt s i (by omega), e]; rfl
      rw [List.append_assoc, h2]
      show List.drop f (List.take i s) ++ List.drop i s = List.drop f s
      have h3 : List.drop i s = List.drop (i - f) (List.drop f s) := by rw [List.drop_drop]; congr 1; omega
      rw [List.drop_take, h3, List.take_append_drop]
    · rw [linesFrom_other s f i (by omega) e]
      exact join_lines s k f (i + 1) (by omega) (by omega) (by omega)
theorem join_lines_all (s : Bs) : joinF ((linesOf s).map (cutOf s)) = s := join_lines s (s.length - 0) 0 0 rfl (Nat.le_refl _) (by omega)
theorem linesFrom_inner (s : Bs) : ∀ (k f i : Nat), s.length - i = k → f ≤ i → i ≤ s.length → (∀ j, f ≤ j → j < i → gt s j ≠ 10) → ∀ p ∈ linesFrom f i (s.drop i), (∀ j, p.1 ≤ j → j < p.2 → gt s j ≠ 10) ∧ (p.2 < s.length → gt s p.2 = 10)
  | 0, f, i, hk, hf, hi, hj, p, hp => by
    rw [linesFrom_end s f i (by omega)] at hp
    rw [List.mem_singleton.1 hp]
    exact ⟨hj, fun h => by simp only at h; omega⟩
  | k + 1, f, i, hk, hf, hi, hj, p, hp => by
    by_cases e : gt s i = 10
    · rw [linesFrom_feed s f i (by omega) e] at hp
      rcases List.mem_cons.1 hp with hp | hp
      · rw [hp]; exact ⟨hj, fun _ => e⟩
      · exact linesFrom_inner s k (i + 1) (i + 1) (by omega) (Nat.le_refl _) (by omega) (fun j h1 h2 => by omega) p hp
    · rw [linesFrom_other s f i (by omega) e] at hp
      refine linesFrom_inner s k f (i + 1) (by omega) (by omega) (by omega) (fun j h1 h2 => ?_) p hp
      by_cases h3 : j = i
      · rw [h3]; exact e
      · exact hj j h1 (by omega)
theorem lines_inner (s : Bs) : ∀ p ∈ linesOf s, (∀ j, p.1 ≤ j → j < p.2 → gt s j ≠ 10) ∧ (p.2 < s.length → gt s p.2 = 10) :=
  linesFrom_inner s (s.length - 0) 0 0 rfl (Nat.le_refl _) (by omega) (fun j h1 h2 => by omega)
theorem gt_cutOf (s : Bs) (p : Nat × Nat) (j : Nat) (h : p.1 + j < p.2) : gt (cutOf s p) j = gt s (p.1 + j) := by
  unfold cutOf
  rw [gt_drop, gt_take _ _ _ h]
theorem gt_left (a b : Bs) (n : Nat) (h : n < a.length) : gt (a ++ b) n = gt a n := by simp [gt, List.getD_eq_getElem?_getD, List.getElem?_append_left h]
theorem gt_right (a b : Bs) (n : Nat) (h : a.length ≤ n) : gt (a ++ b) n = gt b (n - a.length) := by simp [gt, List.getD_eq_getElem?_getD, List.getElem?_append_right h]
end Mist
