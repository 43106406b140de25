/-
  PLAIN LAWS of chapter 1: what is spliced in is spliced out again.
-/
import Derived.Test.YtfdcimkdhioepaaCPlain5
namespace Mist
theorem check_all (s : Bs) (h : s.length ≤ 2000) (hv : ∀ b ∈ s, validB b = true) : (check s).2 = 0 := by rw [check_ok s h hv]
theorem valid_of_check (s : Bs) (h : (check s).2 = 0) : ∀ b ∈ s, validB b = true := by
  unfold check at h
  split at h
  · simp at h
  · split at h
    · simp at h
    · rename_i hf
      intro b hb
      have := (List.findIdx?_eq_none_iff.1 hf) b hb
      simpa using this
theorem patch_zero (s put : Bs) (a m : Nat) (h1 : (check s).2 = 0) (h2 : (check put).2 = 0) (h3 : a + m ≤ s.length) (h4 : s.length + put.length ≤ 2000) : patchErr s a m put = 0 := by
  have he : err2 s put = 0 := by unfold err2; rw [if_neg (by simpa using h1)]; exact h2
  unfold patchErr
  rw [if_neg (by simpa using he), if_pos (by omega), if_neg (by omega)]
/-- A text with x in place of what stands from a to z. -/
def outIn (s x : Bs) (a z : Nat) : Bs := s.take a ++ x ++ s.drop z
theorem outIn_len (s x : Bs) (a z : Nat) (h : a ≤ z) (hz : z ≤ s.length) : (outIn s x a z).length = s.length - (z - a) + x.length := by
  unfold outIn; simp; omega
theorem outIn_valid (s x : Bs) (a z : Nat) (h1 : (check s).2 = 0) (h2 : (check x).2 = 0) (hl : (outIn s x a z).length ≤ 2000) : (check (outIn s x a z)).2 = 0 := by
  refine check_all _ hl (fun b hb => ?_)
  unfold outIn at hb
  rcases List.mem_append.1 hb with hb | hb
  · rcases List.mem_append.1 hb with hb | hb
    · exact valid_of_check s h1 b (List.mem_of_mem_take hb)
    · exact valid_of_check x h2 b hb
  · exact valid_of_check s h1 b (List.mem_of_mem_drop hb)
theorem splice_in (s x : Bs) (a m : Nat) (h1 : (check s).2 = 0) (h2 : (check x).2 = 0) (h3 : a + m ≤ s.length) (h4 : s.length + x.length ≤ 2000) : spliceOf s a m x = (outIn s x a (a + m), 0) := by
  unfold spliceOf
  rw [if_neg (by simpa using patch_zero s x a m h1 h2 h3 h4)]
  rfl
theorem outIn_back (s x : Bs) (a z : Nat) (h : a ≤ z) (hz : z ≤ s.length) : outIn (outIn s x a z) (List.drop a (List.take z s)) a (a + x.length) = s := by
  unfold outIn
  have e1 : (s.take a ++ x ++ s.drop z).take a = s.take a := by
    rw [List.append_assoc, List.take_append_of_le_length (by simp; omega), List.take_take, Nat.min_self]
  have e2 : (s.take a ++ x ++ s.drop z).drop (a + x.length) = s.drop z := by
    rw [List.drop_append_of_le_length (by simp; omega), List.drop_of_length_le (by simp; omega), List.nil_append]
  rw [e1, e2]
  have e3 : s.take a ++ List.drop a (List.take z s) = s.take z := by
    have : s.take a = (s.take z).take a := by rw [List.take_take, Nat.min_eq_left h]
    rw [this, List.take_append_drop]
  rw [e3, List.take_append_drop]
theorem mid_len (s : Bs) (a z : Nat) (h : a ≤ z) (hz : z ≤ s.length) : (List.drop a (List.take z s)).length = z - a := by simp; omega
theorem mid_check (s : Bs) (a z : Nat) (h1 : (check s).2 = 0) (hl : s.length ≤ 2000) : (check (List.drop a (List.take z s))).2 = 0 :=
  check_all _ (by simp; omega) (fun b hb => valid_of_check s h1 b (List.mem_of_mem_take (List.mem_of_mem_drop hb)))
theorem moved_low (s x : Bs) (a m k : Nat) (h : patchErr s a m x = 0) (hk : k ≤ s.length) (h1 : k ≤ a) : movedOf s a m x k = ((k : Int), 0) := by
  unfold movedOf; rw [if_neg (by simpa using h), if_neg (by omega), if_pos (by omega)]
theorem moved_high (s x : Bs) (a m k q : Nat) (h : patchErr s a m x = 0) (hk : k ≤ s.length) (h1 : a < k) (h2 : a + m ≤ k) (hq : q + m = k + x.length) : movedOf s a m x k = ((q : Int), 0) := by
  unfold movedOf; rw [if_neg (by simpa using h), if_neg (by omega), if_neg (by omega), if_pos (by omega)]
  simp only [Prod.mk.injEq, and_true]; omega
theorem moved_mid (s x : Bs) (a m k : Nat) (h : patchErr s a m x = 0) (hk : k ≤ s.length) (h1 : a < k) (h2 : k < a + m) : movedOf s a m x k = (((a + x.length : Nat) : Int), 0) := by
  unfold movedOf; rw [if_neg (by simpa using h), if_neg (by omega), if_neg (by omega), if_neg (by omega)]
  simp
theorem gt_low (s x : Bs) (a z k : Nat) (hz : a ≤ s.length) (h : k < a) : gt (outIn s x a z) k = gt s k := by
  unfold outIn gt
  rw [List.append_assoc, List.getD_eq_getElem?_getD, List.getElem?_append_left (by simp; omega), List.getElem?_take_of_lt h, List.getD_eq_getElem?_getD]
theorem gt_high (s x : Bs) (a z k q : Nat) (ha : a ≤ s.length) (hk : z ≤ k) (hq : q + z = k + a + x.length) : gt (outIn s x a z) q = gt s k := by
  unfold outIn gt
  rw [List.getD_eq_getElem?_getD, List.getElem?_append_right (by simp; omega), List.getElem?_drop, List.getD_eq_getElem?_getD]
  congr 2
  simp; omega
end Mist
