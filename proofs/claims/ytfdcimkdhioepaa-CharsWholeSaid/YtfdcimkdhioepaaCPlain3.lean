/-
  PLAIN FUNCTIONS of chapter 1: fields and comments.
-/
import Derived.Test.YtfdcimkdhioepaaCPlain2
import Derived.Lib.FieldsP
import Derived.Lib.TrimAscii
import Derived.Lib.IndexMore
import Derived.Lib.Join
import Derived.Lib.RuneCountTail
namespace Mist
open Go
/-- What stands between blanks and line feeds. -/
def fldGo : Bs → Bs → List Bs
  | cur, [] => if cur = [] then [] else [cur]
  | cur, b :: r => if gapB b = true then (if cur = [] then fldGo [] r else cur :: fldGo [] r) else fldGo (cur ++ [b]) r
theorem fld_end (cur : Bs) (h : cur ≠ []) : fldGo cur [] = [cur] := by rw [fldGo, if_neg h]
def gapR (r : Nat) : Bool := r == 32 || r == 10
theorem gapR_byte (b : UInt8) : gapR b.toNat = gapB b := by
  unfold gapR gapB
  rw [Bool.eq_iff_iff]
  simp [← UInt8.toNat_inj]
def curOf (l : Bs) (pos : Nat) : Option Nat → Bs
  | none => []
  | some a => (l.take pos).drop a
theorem spans_fld (l : Bs) (ha : ∀ b ∈ l, b.toNat < 128) : ∀ (f pos : Nat) (st : Option Nat) (acc : List (Nat × Nat)), l.length ≤ pos + f → pos ≤ l.length → (∀ a, st = some a → a < pos) →
    (Lib.closeSpans (ofL l) (Lib.spansFromP gapR (ofL l) f pos st acc)).map (fun x => ((ofL l).extract x.1 x.2).data.toList) = acc.map (fun x => ((ofL l).extract x.1 x.2).data.toList) ++ fldGo (curOf l pos st) (l.drop pos) := by
  have hex : ∀ a b, ((ofL l).extract a b).data.toList = (l.take b).drop a := fun a b => by rw [ofL_extract]; rfl
  have hend : ∀ (st : Option Nat) (acc : List (Nat × Nat)), (∀ a, st = some a → a < l.length) →
      (Lib.closeSpans (ofL l) (acc, st)).map (fun x => ((ofL l).extract x.1 x.2).data.toList) = acc.map (fun x => ((ofL l).extract x.1 x.2).data.toList) ++ fldGo (curOf l l.length st) (l.drop l.length) := by
    intro st acc hst
    rw [List.drop_length]
    cases st with
    | none => simp [Lib.closeSpans, curOf, fldGo]
    | some a =>
      have := hst a rfl
      have hne : (l.take l.length).drop a ≠ [] := by
        intro e; have := congrArg List.length e; simp at this; omega
      show _ = _ ++ fldGo ((l.take l.length).drop a) []
      rw [fld_end _ hne]
      simp only [Lib.closeSpans, List.map_append, List.map_cons, List.map_nil, hex, ofL_size]
  intro f
  induction f with
  | zero =>
    intro pos st acc h1 h2 h3
    obtain rfl : pos = l.length := by omega
    exact hend st acc h3
  | succ f ih =>
    intro pos st acc h1 h2 h3
    by_cases hp : pos < l.length
    · have hdec : Utf8.decode (ofL l) pos = ((gt l pos).toNat, 1) := by
        have h1 := Lib.tail_decode (ofL l) pos 0
        rw [Nat.add_zero, ofL_extract, ofL_size, List.take_length, drop_gt l pos hp] at h1
        rw [← h1]
        exact Lib.decodeL_ascii (gt l pos) (l.drop (pos + 1)) (ha _ (by rw [gt_eq l pos hp]; exact List.getElem_mem hp))
      have hd := drop_gt l pos hp
      unfold Lib.spansFromP
      rw [if_pos (show pos < (ofL l).size from hp), hdec, hd]
      simp only [gapR_byte]
      by_cases hg : gapB (gt l pos) = true
      · rw [if_pos hg]
        cases st with
        | none =>
          simp only
          rw [ih (pos + 1) none acc (by omega) (by omega) (fun a h => by cases h)]
          simp [curOf, fldGo, hg]
        | some a =>
          have hap := h3 a rfl
          have hne : (l.take pos).drop a ≠ [] := by
            intro e; have := congrArg List.length e; simp at this; omega
          simp only
          rw [ih (pos + 1) none _ (by omega) (by omega) (fun a h => by cases h)]
          simp [curOf, fldGo, hg, hne]
          exact List.drop_take.symm
      · rw [if_neg hg]
        have htk : l.take (pos + 1) = l.take pos ++ [gt l pos] := take_gt l pos hp
        cases st with
        | none =>
          simp only
          rw [ih (pos + 1) (some pos) acc (by omega) (by omega) (fun a h => by injection h; omega)]
          have e : (l.take (pos + 1)).drop pos = [gt l pos] := by rw [htk, List.drop_append_of_le_length (by simp; omega)]; simp
          simp [curOf, fldGo, hg, e]
        | some a =>
          have hap := h3 a rfl
          simp only
          rw [ih (pos + 1) (some a) acc (by omega) (by omega) (fun a' h => by injection h; omega)]
          have e : (l.take (pos + 1)).drop a = (l.take pos).drop a ++ [gt l pos] := by rw [htk, List.drop_append_of_le_length (by simp; omega)]
          simp [curOf, fldGo, hg, e]
    · obtain rfl : pos = l.length := by omega
      rw [Lib.spansFromP_end _ _ _ _ _ _ (by rw [ofL_size]; omega)]
      exact hend st acc h3
theorem fields_fld (l : Bs) (ha : ∀ b ∈ l, b.toNat < 128) : (Lib.goFieldsP gapR (ofL l)).map (·.data.toList) = fldGo [] l := by
  have h := spans_fld l ha l.length 0 none [] (by omega) (by omega) (fun a h => by cases h)
  unfold Lib.goFieldsP Lib.spansOfP
  rw [List.map_map]
  simp only [List.map_nil, List.nil_append, curOf, List.drop_zero] at h
  exact h
def cutB (l : Bs) : Bs := l.takeWhile (fun b => b != 35)
theorem index35 (l : Bs) : (Lib.index l [35] = -1 ∧ cutB l = l) ∨ ∃ k : Nat, Lib.index l [35] = (k : Int) ∧ k ≤ l.length ∧ cutB l = l.take k := by
  induction l with
  | nil => left; exact ⟨by decide, rfl⟩
  | cons b r ih =>
    unfold Lib.index
    by_cases h : b = 35
    · subst h
      right
      refine ⟨0, by simp [List.isPrefixOf], by simp, by simp [cutB]⟩
    · have hp : ([35] : Bs).isPrefixOf (b :: r) = false := by simp [List.isPrefixOf]; exact fun e => h e.symm
      have hc : cutB (b :: r) = b :: cutB r := by unfold cutB; rw [List.takeWhile_cons_of_pos (by simpa using h)]
      rw [hp, hc]
      rcases ih with ⟨h1, h2⟩ | ⟨k, h1, h2, h3⟩
      · left; rw [h1, h2]; exact ⟨by simp, rfl⟩
      · right
        refine ⟨k + 1, ?_, by simp; omega, by rw [h3]; simp⟩
        rw [h1]
        have : ((k : Int) == -1) = false := by rw [beq_eq_false_iff_ne]; omega
        simp [this]
theorem cut35 (l : Bs) : (Lib.cut l [35]).1 = cutB l := by
  unfold Lib.cut
  rcases index35 l with ⟨h1, h2⟩ | ⟨k, h1, h2, h3⟩
  · rw [h1, if_neg (by omega), h2]
  · rw [h1, if_pos (by omega), h3]; simp
theorem cutB_le (l : Bs) : (cutB l).length ≤ l.length := (List.takeWhile_sublist _).length_le
theorem cutOf_len (s : Bs) (p : Nat × Nat) (h : p.1 ≤ p.2 ∧ p.2 ≤ s.length) : (cutOf s p).length = p.2 - p.1 := by unfold cutOf; simp; omega
def cleanPre (s : Bs) (l : List (Nat × Nat)) : Bs := l.flatMap fun p => cutB (cutOf s p) ++ [10]
theorem cleanPre_snoc (s : Bs) (l : List (Nat × Nat)) (p : Nat × Nat) : cleanPre s (l ++ [p]) = cleanPre s l ++ cutB (cutOf s p) ++ [10] := by simp [cleanPre]
theorem cleanPre_le (s : Bs) (l : List (Nat × Nat)) (h : ∀ p ∈ l, p.1 ≤ p.2 ∧ p.2 ≤ s.length) : (cleanPre s l).length ≤ l.length * (s.length + 1) := by
  induction l with
  | nil => simp [cleanPre]
  | cons x r ih =>
    have h1 := cutB_le (cutOf s x)
    have h2 := cutOf_len s x (h x (by simp))
    have h3 := h x (by simp)
    have h4 := ih (fun p hp => h p (by simp [hp]))
    have e : cleanPre s (x :: r) = cutB (cutOf s x) ++ [10] ++ cleanPre s r := by simp [cleanPre]
    have e2 : (x :: r).length * (s.length + 1) = r.length * (s.length + 1) + (s.length + 1) := by rw [List.length_cons, Nat.succ_mul]
    rw [e, e2]
    simp only [List.length_append, List.length_cons, List.length_nil]
    omega
def cleanText (s : Bs) : Bs := cleanPre s (linesOf s)
theorem cleanPre_mem (s : Bs) (l : List (Nat × Nat)) : ∀ b ∈ cleanPre s l, b ∈ s ∨ b = 10 := by
  intro b hb
  obtain ⟨p, _, hp⟩ := List.mem_flatMap.1 hb
  rcases List.mem_append.1 hp with h | h
  · left
    have h1 : b ∈ cutOf s p := (List.takeWhile_sublist _).subset h
    exact List.mem_of_mem_take (List.mem_of_mem_drop h1)
  · right; simpa using h
theorem check_valid (s : Bs) (h : (check s).2 = 0) : s.length ≤ 2000 ∧ ∀ b ∈ s, validB b = true := by
  unfold check at h
  split at h
  · simp at h
  · rename_i hl
    split at h
    · simp at h
    · rename_i hf
      refine ⟨by omega, fun b hb => ?_⟩
      have := (List.findIdx?_eq_none_iff.1 hf) b hb
      simpa using this
theorem valid_ascii (b : UInt8) (h : validB b = true) : b.toNat < 128 := by
  unfold validB at h
  simp [UInt8.le_iff_toNat_le, ← UInt8.toNat_inj] at h
  omega
theorem cleanText_ascii (s : Bs) (h : (check s).2 = 0) : ∀ b ∈ cleanText s, b.toNat < 128 := by
  intro b hb
  rcases cleanPre_mem s _ b hb with h1 | h1
  · exact valid_ascii b ((check_valid s h).2 b h1)
  · rw [h1]; decide
theorem fldGo_len : ∀ (l cur : Bs), ((fldGo cur l).map (fun x => x.length + 1)).sum ≤ cur.length + l.length + 1
  | [], cur => by
    unfold fldGo
    split
    · simp
    · simp
  | b :: r, cur => by
    unfold fldGo
    split
    · split
      · have := fldGo_len r []; simp only [List.length_nil, List.length_cons] at this ⊢; omega
      · have := fldGo_len r []; simp only [List.length_nil, List.length_cons, List.map_cons, List.sum_cons] at this ⊢; omega
    · have := fldGo_len r (cur ++ [b]); simp only [List.length_append, List.length_cons, List.length_nil] at this ⊢; omega
theorem join_len (xs : List Bs) : (Lib.join xs [32]).length ≤ (xs.map (fun x => x.length + 1)).sum := by
  unfold Lib.join
  induction xs with
  | nil => simp [List.intercalate]
  | cons x r ih =>
    cases r with
    | nil => simp [List.intercalate]
    | cons y t =>
      have e : ([32] : Bs).intercalate (x :: y :: t) = x ++ [32] ++ ([32] : Bs).intercalate (y :: t) := by simp [List.intercalate]
      rw [e, List.length_append, List.length_append, List.map_cons, List.sum_cons]
      simp only [List.length_cons, List.length_nil] at ih ⊢
      omega
theorem fldGo_count (l : Bs) : (fldGo [] l).length ≤ l.length + 1 := by
  have h := fldGo_len l []
  have : ∀ xs : List Bs, xs.length ≤ (xs.map (fun x => x.length + 1)).sum := by
    intro xs
    induction xs with
    | nil => simp
    | cons x r ih => simp only [List.length_cons, List.map_cons, List.sum_cons]; omega
  have := this (fldGo [] l)
  simp only [List.length_nil] at h
  omega
def cleanOf (s : Bs) : Bs × Nat := if (check s).2 ≠ 0 then ([], (check s).2) else (Lib.join (fldGo [] (cleanText s)) [32], 0)
theorem cleanOf_bad (s : Bs) (h : (check s).2 ≠ 0) : cleanOf s = ([], (check s).2) := by unfold cleanOf; rw [if_pos h]
theorem cleanOf_ok (s : Bs) (h : (check s).2 = 0) : cleanOf s = (Lib.join (fldGo [] (cleanText s)) [32], 0) := by unfold cleanOf; rw [if_neg (by simpa using h)]
end Mist
