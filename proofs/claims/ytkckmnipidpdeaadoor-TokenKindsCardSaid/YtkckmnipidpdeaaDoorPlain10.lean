/-
  PLAIN FUNCTIONS of chapter 2, tenth part: numbers.
-/
import Derived.Test.YtkckmnipidpdeaaDoorPlain6
import Derived.Lib.AtoiTie
namespace Mist
open Go
def digits (acc : Nat) (l : Bs) : Nat := l.foldl (fun n c => 10 * n + (c.toNat - 48)) acc
def numOf (l : Bs) : Nat := digits 0 l
def numberOf (s : Bs) : Nat × Nat := if kind s = 2 then (numOf s, 0) else (0, 4)
theorem numberOf_no (s : Bs) (h : ¬ kind s = 2) : numberOf s = (0, 4) := by unfold numberOf; rw [if_neg h]
theorem numberOf_yes (s : Bs) (h : kind s = 2) : numberOf s = (numOf s, 0) := by unfold numberOf; rw [if_pos h]
theorem digit_le (c : UInt8) (h : digitB c = true) : 48 ≤ c.toNat ∧ c.toNat ≤ 57 := by
  simpa [digitB, UInt8.le_iff_toNat_le] using h
theorem digits_lt (l : Bs) (h : ∀ c ∈ l, digitB c = true) : ∀ acc, digits acc l < (acc + 1) * 10 ^ l.length := by
  induction l with
  | nil => intro acc; simp [digits]
  | cons c r ih =>
    intro acc
    have hc := digit_le c (h c (by simp))
    have e : digits acc (c :: r) = digits (10 * acc + (c.toNat - 48)) r := rfl
    rw [e]
    refine Nat.lt_of_lt_of_le (ih (fun d hd => h d (by simp [hd])) _) ?_
    rw [List.length_cons, Nat.pow_succ, Nat.mul_comm _ 10, ← Nat.mul_assoc]
    exact Nat.mul_le_mul_right _ (by omega)
theorem digits_snoc (acc : Nat) (l : Bs) (c : UInt8) : digits acc (l ++ [c]) = 10 * digits acc l + (c.toNat - 48) := by simp [digits]
theorem numOf_lt (l : Bs) (h : ∀ c ∈ l, digitB c = true) (k : l.length ≤ 4) : numOf l < 10000 := by
  have h1 := digits_lt l h 0
  have h2 : (10 : Nat) ^ l.length ≤ 10 ^ 4 := Nat.pow_le_pow_right (by omega) k
  unfold numOf
  omega
theorem decFrom_digits (l : Bs) (h : ∀ c ∈ l, digitB c = true) : ∀ acc, Lib.decFrom acc l = some (digits acc l) := by
  induction l with
  | nil => intro acc; rfl
  | cons c r ih =>
    intro acc
    have hc := digit_le c (h c (by simp))
    have e : digits acc (c :: r) = digits (10 * acc + (c.toNat - 48)) r := rfl
    have hd : Lib.digitVal c = some (c.toNat - 48) := by unfold Lib.digitVal; rw [if_pos hc]
    rw [Lib.decFrom, hd, e]
    show Lib.decFrom (acc * 10 + (c.toNat - 48)) r = _
    rw [Nat.mul_comm]
    exact ih (fun d hd => h d (by simp [hd])) _
theorem atoi_digits (l : Bs) (h : ∀ c ∈ l, digitB c = true) (k : l.length ≤ 4) (k0 : 0 < l.length) : Lib.atoiAll l = .ok (numOf l : Int) := by
  rw [Lib.atoiAll_short l (by omega)]
  have : Lib.atoi l = some (numOf l : Int) := by
    cases l with
    | nil => simp at k0
    | cons b r =>
      have hb := digit_le b (h b (by simp))
      have h1 : (b == 45) = false := by
        rw [Bool.eq_false_iff]; intro e
        have := eq_of_beq e; subst this; simp at hb
      have h2 : (b == 43) = false := by
        rw [Bool.eq_false_iff]; intro e
        have := eq_of_beq e; subst this; simp at hb
      rw [Lib.atoi, h1, h2]
      simp only [Bool.false_eq_true, if_false]
      unfold Lib.decNat
      rw [if_neg (by simp), decFrom_digits (b :: r) h 0]
      rfl
  rw [this]; rfl
theorem kind_two (s : Bs) (h : kind s = 2) : s.length ≤ 4 ∧ 0 < s.length ∧ ∀ c ∈ s, digitB c = true := by
  have hk : (first s).2 = s ∧ (first s).1 = 2 := by
    unfold kind at h
    split at h
    · exact ⟨by assumption, h⟩
    · cases h
  obtain ⟨h1, h2⟩ := hk
  by_cases h0 : s.length = 0
  · rw [first_empty s h0] at h2; cases h2
  by_cases hs : smallB (gt s 0) = true
  · by_cases hk : hasB keywords (s.take (while_ partB s)) = true
    · rw [first_kw s h0 hs hk] at h2; cases h2
    · by_cases hn : while_ partB s ≤ 12
      · rw [first_name s h0 hs hk hn] at h2; cases h2
      · rw [first_long s h0 hs hk hn] at h2; cases h2
  · by_cases hd : digitB (gt s 0) = true
    · by_cases hn : isNumber (s.take (while_ digitB s)) = true
      · rw [first_num s h0 hs hd hn] at h1
        simp only at h1
        have hn2 := hn
        rw [h1] at hn2
        have h4 : s.length ≤ 4 := by simp [isNumber] at hn2; omega
        refine ⟨h4, by omega, ?_⟩
        have hle : s.length ≤ (s.takeWhile digitB).length := by
          have := congrArg List.length h1
          simp [while_] at this
          omega
        have he : s.takeWhile digitB = s := (List.takeWhile_prefix digitB).eq_of_length (Nat.le_antisymm (List.takeWhile_prefix digitB).length_le hle)
        have ha := List.all_takeWhile (p := digitB) (l := s)
        rw [he] at ha
        simpa using ha
      · rw [first_nonum s h0 hs hd hn] at h2; cases h2
    · cases hg : signOf s with
      | none => rw [first_none s h0 hs hd hg] at h2; cases h2
      | some g => rw [first_sign s h0 hs hd g hg] at h2; cases h2
theorem numOf_take (l : Bs) (n : Nat) (h : n < l.length) : numOf (l.take (n + 1)) = 10 * numOf (l.take n) + ((gt l n).toNat - 48) := by
  rw [List.take_succ_eq_append_getElem h]
  unfold numOf
  rw [digits_snoc]
  simp [gt, h]
theorem gt_mem (l : Bs) (n : Nat) (h : n < l.length) : gt l n ∈ l := by
  have : gt l n = l[n] := by simp [gt, h]
  rw [this]; exact List.getElem_mem h
end Mist
