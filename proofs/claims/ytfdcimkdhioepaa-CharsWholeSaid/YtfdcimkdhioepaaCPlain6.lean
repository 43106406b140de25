/-
  PLAIN LAWS of chapter 1: cleaning byte by byte.
-/
import Derived.Test.YtfdcimkdhioepaaCPlain4
import Derived.Test.YtfdcimkdhioepaaCPlain3
namespace Mist
open Go
/-- A text without its comments (true: inside of one). -/
def strip : Bool → Bs → Bs
  | _, [] => []
  | c, b :: r => if b = 35 ∨ (c = true ∧ b ≠ 10) then strip true r else b :: strip false r
theorem cutB_in (l : Bs) (x : UInt8) (h : (35 : UInt8) ∈ l) : cutB (l ++ [x]) = cutB l := by
  induction l with
  | nil => cases h
  | cons b r ih =>
    by_cases hb : b = 35
    · subst hb; simp [cutB]
    · have h2 : (35 : UInt8) ∈ r := by
        rcases List.mem_cons.1 h with h | h
        · exact absurd h.symm hb
        · exact h
      have e : ∀ t : Bs, cutB (b :: t) = b :: cutB t := fun t => by unfold cutB; rw [List.takeWhile_cons_of_pos (by simpa using hb)]
      rw [List.cons_append, e, e, ih h2]
theorem cutB_out (l : Bs) (h : (35 : UInt8) ∉ l) : cutB l = l := by
  induction l with
  | nil => rfl
  | cons b r ih =>
    have hb : b ≠ 35 := by rintro rfl; exact h (by simp)
    unfold cutB at ih ⊢
    rw [List.takeWhile_cons_of_pos (by simpa using hb), ih (fun h2 => h (by simp [h2]))]
theorem cutB_hash (l : Bs) (h : (35 : UInt8) ∉ l) : cutB (l ++ [35]) = l := by
  unfold cutB
  rw [List.takeWhile_append_of_pos (fun x hx => by simp only [bne_iff_ne, ne_eq]; rintro rfl; exact h hx)]
  simp
theorem cutOf_self (s : Bs) (i : Nat) : cutOf s (i, i) = [] := by unfold cutOf; simp
theorem cutOf_more (s : Bs) (f i : Nat) (h : f ≤ i) (hi : i < s.length) : cutOf s (f, i + 1) = cutOf s (f, i) ++ [gt s i] := by
  unfold cutOf
  simp only
  rw [take_gt s i hi, List.drop_append_of_le_length (by rw [List.length_take]; omega)]
theorem cleanPre_cons (s : Bs) (p : Nat × Nat) (l : List (Nat × Nat)) : cleanPre s (p :: l) = cutB (cutOf s p) ++ [10] ++ cleanPre s l := by simp [cleanPre]
theorem clean_strip (s : Bs) : ∀ (k f i : Nat), s.length - i = k → f ≤ i → i ≤ s.length → cleanPre s (linesFrom f i (s.drop i)) = cutB (cutOf s (f, i)) ++ strip (decide ((35 : UInt8) ∈ cutOf s (f, i))) (s.drop i) ++ [10]
  | 0, f, i, hk, hf, hi => by
    rw [linesFrom_end s f i (by omega), List.drop_eq_nil_of_le (by omega), cleanPre_cons]
    simp [cleanPre, strip]
  | k + 1, f, i, hk, hf, hi => by
    have hlt : i < s.length := by omega
    have hd := drop_gt s i hlt
    by_cases hb : gt s i = 10
    · rw [linesFrom_feed s f i hlt hb, cleanPre_cons, clean_strip s k (i + 1) (i + 1) (by omega) (Nat.le_refl _) (by omega), cutOf_self, hd, strip, hb]
      rw [if_neg (by simp)]
      simp [cutB]
    · rw [linesFrom_other s f i hlt hb, clean_strip s k f (i + 1) (by omega) (by omega) (by omega), cutOf_more s f i hf hlt, hd, strip]
      by_cases hc : (35 : UInt8) ∈ cutOf s (f, i)
      · rw [cutB_in _ _ hc]
        have e1 : decide ((35 : UInt8) ∈ cutOf s (f, i) ++ [gt s i]) = true := by simp [hc]
        rw [e1, if_pos (.inr ⟨by simpa using hc, hb⟩)]
      · by_cases h35 : gt s i = 35
        · have e1 : decide ((35 : UInt8) ∈ cutOf s (f, i) ++ [gt s i]) = true := by simp [h35]
          rw [e1, if_pos (.inl h35), h35, cutB_hash _ hc, cutB_out _ hc]
        · have hn : (35 : UInt8) ∉ cutOf s (f, i) ++ [gt s i] := by
            intro h; rcases List.mem_append.1 h with h | h
            · exact hc h
            · exact h35 (List.mem_singleton.1 h).symm
          have e1 : decide ((35 : UInt8) ∈ cutOf s (f, i) ++ [gt s i]) = false := by simpa using hn
          rw [e1, if_neg (by rintro (h | ⟨h, _⟩); exact h35 h; exact hc (by simpa using h)), cutB_out _ hn, cutB_out _ hc]
          simp
theorem cleanText_strip (s : Bs) : cleanText s = strip false s ++ [10] := by
  have h := clean_strip s s.length 0 0 (by omega) (Nat.le_refl _) (Nat.zero_le _)
  rw [List.drop_zero, cutOf_self] at h
  exact h
/-- What is put together byte by byte: a gap is one blank, but none in front. -/
def jn : Bs → Bool → Bs → Bs
  | out, _, [] => out
  | out, g, b :: r => if gapB b = true then jn out true r else jn (out ++ (if g = true ∧ out ≠ [] then [32] else []) ++ [b]) false r
def curL (cur : Bs) : List Bs := if cur = [] then [] else [cur]
theorem join_nil : Lib.join [] [32] = [] := by simp [Lib.join, List.intercalate]
theorem join_one (x : Bs) : Lib.join [x] [32] = x := by simp [Lib.join, List.intercalate]
theorem join_snoc (xs : List Bs) (x : Bs) (h : xs ≠ []) : Lib.join (xs ++ [x]) [32] = Lib.join xs [32] ++ [32] ++ x := by
  unfold Lib.join
  induction xs with
  | nil => exact absurd rfl h
  | cons y r ih =>
    cases r with
    | nil => simp [List.intercalate]
    | cons z t =>
      have e : ∀ (u : List Bs), ([32] : Bs).intercalate (y :: z :: u) = y ++ [32] ++ ([32] : Bs).intercalate (z :: u) := fun u => by simp [List.intercalate]
      have ih := ih (by simp)
      rw [List.cons_append] at ih
      rw [List.cons_append, List.cons_append, e, e, ih]
      simp
theorem join_ne (xs : List Bs) (h : xs ≠ []) (hx : ∀ x ∈ xs, x ≠ []) : Lib.join xs [32] ≠ [] := by
  cases xs with
  | nil => exact absurd rfl h
  | cons x r =>
    intro e
    cases r with
    | nil => rw [join_one] at e; exact hx x (by simp) e
    | cons y t =>
      have e2 : Lib.join (x :: y :: t) [32] = x ++ [32] ++ Lib.join (y :: t) [32] := by simp [Lib.join, List.intercalate]
      rw [e2] at e; simp at e
theorem jn_fld : ∀ (t : Bs) (accs : List Bs) (cur : Bs) (g : Bool), (∀ x ∈ accs, x ≠ []) → (cur = [] → g = true ∨ accs = []) → (cur ≠ [] → g = false) →
    jn (Lib.join (accs ++ curL cur) [32]) g t = Lib.join (accs ++ fldGo cur (t ++ [10])) [32]
  | [], accs, cur, g, h1, h2, h3 => by
    rw [jn, List.nil_append, fldGo, if_pos (by decide)]
    unfold curL
    split
    · rfl
    · rfl
  | b :: r, accs, cur, g, h1, h2, h3 => by
    rw [jn, List.cons_append, fldGo]
    by_cases hg : gapB b = true
    · rw [if_pos hg, if_pos hg]
      by_cases hc : cur = []
      · subst hc
        rw [if_pos rfl]
        have := jn_fld r accs [] true h1 (fun _ => .inl rfl) (fun h => absurd rfl h)
        exact this
      · rw [if_neg hc]
        have := jn_fld r (accs ++ [cur]) [] true (fun x hx => by
          rcases List.mem_append.1 hx with hx | hx
          · exact h1 x hx
          · rw [List.mem_singleton.1 hx]; exact hc) (fun _ => .inl rfl) (fun h => absurd rfl h)
        have e : accs ++ [cur] ++ curL [] = accs ++ curL cur := by unfold curL; rw [if_pos rfl, if_neg hc, List.append_nil]
        rw [e] at this
        rw [this]; simp
    · rw [if_neg hg, if_neg hg]
      have ih := jn_fld r accs (cur ++ [b]) false h1 (fun h => by simp at h) (fun _ => rfl)
      rw [← ih]
      congr 1
      have ec : curL (cur ++ [b]) = [cur ++ [b]] := by unfold curL; rw [if_neg (by simp)]
      rw [ec]
      by_cases hc : cur = []
      · subst hc
        have e0 : curL [] = [] := by unfold curL; rw [if_pos rfl]
        rw [e0, List.append_nil, List.nil_append]
        by_cases ha : accs = []
        · subst ha
          rw [join_nil, List.nil_append, List.nil_append, join_one, if_neg (by simp)]; rfl
        · have hg2 : g = true := (h2 rfl).resolve_right ha
          rw [if_pos ⟨hg2, join_ne accs ha h1⟩, join_snoc accs [b] ha]
      · have hg2 := h3 hc
        have e0 : curL cur = [cur] := by unfold curL; rw [if_neg hc]
        rw [e0, if_neg (by rw [hg2]; simp), List.append_nil]
        by_cases ha : accs = []
        · subst ha
          rw [List.nil_append, List.nil_append, join_one, join_one]
        · rw [join_snoc accs cur ha, join_snoc accs (cur ++ [b]) ha]; simp
theorem clean_jn (s : Bs) : Lib.join (fldGo [] (cleanText s)) [32] = jn [] false (strip false s) := by
  have := jn_fld (strip false s) [] [] false (fun x h => by cases h) (fun _ => .inr rfl) (fun h => absurd rfl h)
  rw [cleanText_strip, ← List.nil_append (fldGo [] (strip false s ++ [10])), ← this]
  rfl
/-- mistref01.Clean's round. -/
def refClean : Bs → Bool → Bool → Bs → Bs
  | out, _, _, [] => out
  | out, c, g, b :: r => if b = 35 ∨ (c = true ∧ b ≠ 10) then refClean out true g r else if gapB b = true then refClean out false true r else refClean (out ++ (if g = true ∧ out ≠ [] then [32] else []) ++ [b]) false false r
theorem refClean_jn : ∀ (s out : Bs) (c g : Bool), refClean out c g s = jn out g (strip c s)
  | [], out, c, g => by rw [refClean, strip, jn]
  | b :: r, out, c, g => by
    rw [refClean, strip]
    split
    · exact refClean_jn r out true g
    · rw [jn]
      split
      · exact refClean_jn r out false true
      · exact refClean_jn r _ false false
theorem cleanOf_ref (s : Bs) (h : (check s).2 = 0) : cleanOf s = (refClean [] false false s, 0) := by
  rw [cleanOf_ok s h, clean_jn, refClean_jn]
theorem refClean_len : ∀ (s out : Bs) (c g : Bool), (refClean out c g s).length ≤ out.length + 2 * s.length
  | [], out, c, g => by rw [refClean]; simp
  | b :: r, out, c, g => by
    rw [refClean]
    split
    · have := refClean_len r out true g; simp only [List.length_cons]; omega
    · split
      · have := refClean_len r out false true; simp only [List.length_cons]; omega
      · have := refClean_len r (out ++ (if g = true ∧ out ≠ [] then [32] else []) ++ [b]) false false
        have h2 : (if g = true ∧ out ≠ [] then ([32] : Bs) else []).length ≤ 1 := by split <;> simp
        simp only [List.length_cons, List.length_append, List.length_nil] at this ⊢
        omega
end Mist
