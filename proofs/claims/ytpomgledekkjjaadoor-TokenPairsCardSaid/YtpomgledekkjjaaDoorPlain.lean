/-
  PLAIN FUNCTIONS of chapters 1 and 2 on lists of bytes (no program in sight): what the walks compute.
-/
namespace Mist
abbrev Bs := List UInt8

/-- A string of the model from its bytes. -/
def ofL (l : Bs) : ByteArray := ⟨⟨l⟩⟩
theorem ofL_toList (l : Bs) : (ofL l).data.toList = l := rfl
theorem ofL_size (l : Bs) : (ofL l).size = l.length := rfl
theorem ofL_data (s : ByteArray) : ofL s.data.toList = s := rfl
theorem ofL_surj (s : ByteArray) : ∃ l, s = ofL l := ⟨s.data.toList, rfl⟩
/-- The byte at a place. -/
def gt (l : Bs) (n : Nat) : UInt8 := l.getD n 0
theorem ofL_get (l : Bs) (i : Nat) (h : i < (ofL l).size) : (ofL l)[i]'h = gt l i := by
  have h' : i < l.length := h
  simp [gt, h']; rfl
theorem gt_eq (l : Bs) (n : Nat) (h : n < l.length) : gt l n = l[n] := by simp [gt, h]
theorem gt_drop (l : Bs) (n k : Nat) : gt (l.drop n) k = gt l (n + k) := by simp [gt, List.getD_eq_getElem?_getD]
theorem gt_take (l : Bs) (n k : Nat) (h : k < n) : gt (l.take n) k = gt l k := by simp [gt, List.getD_eq_getElem?_getD, h]
theorem drop_gt (l : Bs) (n : Nat) (h : n < l.length) : l.drop n = gt l n :: l.drop (n + 1) := by rw [gt_eq l n h]; exact List.drop_eq_getElem_cons h
theorem take_gt (l : Bs) (n : Nat) (h : n < l.length) : l.take (n + 1) = l.take n ++ [gt l n] := by rw [gt_eq l n h]; exact List.take_succ_eq_append_getElem h
theorem ofL_inj {l m : Bs} (h : ofL l = ofL m) : l = m := by
  have := congrArg (fun s => s.data.toList) h
  simpa [ofL_toList] using this

theorem ofL_extract (l : Bs) (a b : Nat) : (ofL l).extract a b = ofL ((l.take b).drop a) := by
  apply ByteArray.ext
  simp [ofL, ByteArray.data_extract, List.extract_toArray, List.extract_eq_take_drop, List.drop_take]
theorem ofL_append (l m : Bs) : ofL l ++ ofL m = ofL (l ++ m) := by
  apply ByteArray.ext
  simp [ofL, ByteArray.data_append]

theorem loop_eq (s : ByteArray) : ∀ (k i : Nat) (r : List UInt8), s.size - i = k → ByteArray.toList.loop s i r = r.reverse ++ s.data.toList.drop i := by
  intro k
  induction k with
  | zero =>
    intro i r h
    unfold ByteArray.toList.loop
    rw [if_neg (by omega), List.drop_eq_nil_of_le (by rw [Array.length_toList]; show s.size ≤ i; omega)]
    simp
  | succ k ih =>
    intro i r h
    unfold ByteArray.toList.loop
    have hi : i < s.data.toList.length := by rw [Array.length_toList]; show i < s.size; omega
    rw [if_pos (by omega), ih (i + 1) _ (by omega), List.drop_eq_getElem_cons hi]
    have : s.get! i = s.data.toList[i] := by
      show s.data[i]! = _
      rw [getElem!_pos s.data i (by simpa using hi)]
      rfl
    simp [this]
theorem ofL_bytes (l : Bs) : (ofL l).toList = l := by
  have := loop_eq (ofL l) ((ofL l).size - 0) 0 [] rfl
  simpa [ByteArray.toList, ofL] using this
/-- Whether a text is in a list; the text at a place. -/
def hasB (xs : List Bs) (x : Bs) : Bool := xs.contains x
def sg (xs : List Bs) (n : Nat) : Bs := xs.getD n []
theorem sg_eq (xs : List Bs) (n : Nat) (h : n < xs.length) : sg xs n = xs[n] := by simp [sg, h]
theorem hasB_nil (x : Bs) : hasB [] x = false := rfl
theorem hasB_take (xs : List Bs) (x : Bs) (n : Nat) (h : n < xs.length) : hasB (xs.take (n + 1)) x = (hasB (xs.take n) x || (x == sg xs n)) := by
  rw [sg_eq _ _ h, List.take_succ_eq_append_getElem h, hasB, hasB, List.contains_append]
  congr 1
  rw [Bool.eq_iff_iff]; simp
theorem hasB_of (xs : List Bs) (x : Bs) (n : Nat) (h : n < xs.length) (e : sg xs n = x) : hasB xs x = true := by
  rw [sg_eq _ _ h] at e
  simp [hasB, ← e]

/-! ### chars -/
def validB (b : UInt8) : Bool := b == 10 || (32 ≤ b && b ≤ 126)
/-- chars.Check: the place and the error. -/
def check (s : Bs) : Nat × Nat :=
  if 2000 < s.length then (2000, 5) else
  match s.findIdx? (fun b => !validB b) with
  | some i => (i, 4)
  | none => (0, 0)

/-! ### token -/
def smallB (b : UInt8) : Bool := 97 ≤ b && b ≤ 122
def digitB (b : UInt8) : Bool := 48 ≤ b && b ≤ 57
def partB (b : UInt8) : Bool := smallB b || digitB b
def gapB (b : UInt8) : Bool := b == 32 || b == 10
def noFeed (b : UInt8) : Bool := b != 10
/-- How many bytes a text begins with that pass. -/
def while_ (p : UInt8 → Bool) (s : Bs) : Nat := (s.takeWhile p).length
/-- How many bytes of gaps a text begins with (true: inside a comment). -/
def skipC : Bool → Bs → Nat
  | _, [] => 0
  | false, b :: r => if gapB b then 1 + skipC false r else if b == 35 then 1 + skipC true r else 0
  | true, b :: r => if b == 10 then 1 + skipC false r else 1 + skipC true r
def skip (s : Bs) : Nat := skipC false s
def isNumber (s : Bs) : Bool := decide (s.length ≤ 4) && (s.length == 1 || gt s 0 != 48)
/-- The bytes of a constant text. -/
def keywords : List Bs := [[97,110,100],[97,115,107],[98,108,97,109,101],[98,111,111,108],[98,111,117,110,100,115],[99,104,111,111,115,101],[99,111,117,110,116],[101,108,115,101],[102,97,108,115,101],[102,117,110],[105,102],[105,110],[105,110,116],[108,101,116],[108,111,111,107],[109,97,121],[109,117,115,116],[110,111,116],[111,98,115,101,114,118,101],[111,114],[114,101,116,114,97,99,116],[116,104,101,110],[116,114,117,101],[116,121,112,101],[117,112,116,111],[118,97,108,117,101,115],[119,104,121]]
def signs : List Bs := [[61,61],[33,61],[60,61],[62,61],[46,46],[43],[45],[42],[47],[37],[60],[62],[61],[40],[41],[91],[93],[123],[125],[44],[58],[59],[46]]
def prefB (g s : Bs) : Bool := g.isPrefixOf s
/-- The first sign that a text begins with. -/
def signOf (s : Bs) : Option Bs := signs.find? (fun g => prefB g s)
/-- The kind and the text of the token that a text begins with; the kind 0 if there is none. -/
def first (s : Bs) : Nat × Bs :=
  if s.length = 0 then (0, []) else
  if smallB (gt s 0) = true then
    if hasB keywords (s.take (while_ partB s)) = true then (3, s.take (while_ partB s))
    else if while_ partB s ≤ 12 then (1, s.take (while_ partB s)) else (0, [])
  else if digitB (gt s 0) = true then
    if isNumber (s.take (while_ digitB s)) = true then (2, s.take (while_ digitB s)) else (0, [])
  else match signOf s with
    | some g => (4, g)
    | none => (0, [])
structure Tok where
  kind : Nat
  text : Bs
  at_ : Int
  deriving DecidableEq, Inhabited
/-- The kind of a text that is one token; 0 if it is none. -/
def kind (s : Bs) : Nat := if (first s).2 = s then (first s).1 else 0
def kindErr (s : Bs) : Nat := if kind s = 0 then 4 else 0
def isName (s : Bs) : Bool := kind s == 1
/-- Whether there must be a gap between two tokens. -/
def glue (a b : Bs) : Bool := !((first (a ++ b)).2 == a)

/-! ### lemmas for the walks -/
section
variable (s : Bs) (h0 : ¬ s.length = 0)
include h0
theorem first_kw (h : smallB (gt s 0) = true) (k : hasB keywords (s.take (while_ partB s)) = true) : first s = (3, s.take (while_ partB s)) := by
  rw [first, if_neg h0, if_pos h, if_pos k]
theorem first_name (h : smallB (gt s 0) = true) (k : ¬ hasB keywords (s.take (while_ partB s)) = true) (n : while_ partB s ≤ 12) : first s = (1, s.take (while_ partB s)) := by
  rw [first, if_neg h0, if_pos h, if_neg k, if_pos n]
theorem first_long (h : smallB (gt s 0) = true) (k : ¬ hasB keywords (s.take (while_ partB s)) = true) (n : ¬ while_ partB s ≤ 12) : first s = (0, []) := by
  rw [first, if_neg h0, if_pos h, if_neg k, if_neg n]
theorem first_num (h : ¬ smallB (gt s 0) = true) (d : digitB (gt s 0) = true) (n : isNumber (s.take (while_ digitB s)) = true) : first s = (2, s.take (while_ digitB s)) := by
  rw [first, if_neg h0, if_neg h, if_pos d, if_pos n]
theorem first_nonum (h : ¬ smallB (gt s 0) = true) (d : digitB (gt s 0) = true) (n : ¬ isNumber (s.take (while_ digitB s)) = true) : first s = (0, []) := by
  rw [first, if_neg h0, if_neg h, if_pos d, if_neg n]
theorem first_sign (h : ¬ smallB (gt s 0) = true) (d : ¬ digitB (gt s 0) = true) (g : Bs) (e : signOf s = some g) : first s = (4, g) := by
  rw [first, if_neg h0, if_neg h, if_neg d, e]
theorem first_none (h : ¬ smallB (gt s 0) = true) (d : ¬ digitB (gt s 0) = true) (e : signOf s = none) : first s = (0, []) := by
  rw [first, if_neg h0, if_neg h, if_neg d, e]
end
theorem first_empty (s : Bs) (h0 : s.length = 0) : first s = (0, []) := by rw [first, if_pos h0]
theorem first_zero (s : Bs) (h : (first s).1 = 0) : (first s).2 = [] := by
  unfold first at h ⊢
  split
  · rfl
  · rename_i h0
    rw [if_neg h0] at h
    split
    · rename_i h1
      rw [if_pos h1] at h
      split
      · rename_i h2; rw [if_pos h2] at h; simp at h
      · rename_i h2
        rw [if_neg h2] at h
        split
        · rename_i h3; rw [if_pos h3] at h; simp at h
        · rfl
    · rename_i h1
      rw [if_neg h1] at h
      split
      · rename_i h2
        rw [if_pos h2] at h
        split
        · rename_i h3; rw [if_pos h3] at h; simp at h
        · rfl
      · rename_i h2
        rw [if_neg h2] at h
        cases hs : signOf s with
        | none => rfl
        | some g => rw [hs] at h; simp at h
theorem first_le (s : Bs) : (first s).1 ≤ 4 := by
  unfold first
  repeat' split
  all_goals simp
/-- No sign before the place is one that the text begins with. -/
def noSign (s : Bs) (n : Nat) : Prop := ∀ g ∈ signs.take n, prefB g s = false
theorem noSign_zero (s : Bs) : noSign s 0 := by intro g hg; simp at hg
theorem noSign_succ (s : Bs) (n : Nat) (h : n < 23) (a : noSign s n) (b : prefB (sg signs n) s = false) : noSign s (n + 1) := by
  intro g hg
  have hn : n < signs.length := h
  rw [List.take_succ_eq_append_getElem hn] at hg
  rcases List.mem_append.1 hg with hg | hg
  · exact a g hg
  · rw [sg_eq _ _ hn] at b
    have := List.mem_singleton.1 hg
    rw [this]; exact b
theorem signOf_hit (s : Bs) (n : Nat) (h : n < 23) (a : noSign s n) (b : prefB (sg signs n) s = true) : signOf s = some (sg signs n) := by
  have hn : n < signs.length := h
  have e : signs = signs.take n ++ sg signs n :: signs.drop (n + 1) := by
    rw [sg_eq _ _ hn, ← List.drop_eq_getElem_cons hn, List.take_append_drop]
  refine (congrArg (List.find? fun g => prefB g s) e).trans ?_
  rw [List.find?_append]
  have : (signs.take n).find? (fun g => prefB g s) = none := by
    rw [List.find?_eq_none]
    intro g hg; rw [a g hg]; simp
  rw [this]; simp [b]
theorem signOf_none (s : Bs) (a : noSign s 23) : signOf s = none := by
  unfold signOf
  rw [List.find?_eq_none]
  intro g hg; rw [a g hg]; simp

theorem check_long (s : Bs) (h : 2000 < s.length) : check s = (2000, 5) := by simp [check, h]
theorem check_ok (s : Bs) (h : s.length ≤ 2000) (ha : ∀ c ∈ s, validB c = true) : check s = (0, 0) := by
  have hf : s.findIdx? (fun b => !validB b) = none := by
    rw [List.findIdx?_eq_none_iff]
    intro c hc; simp [ha c hc]
  simp [check, hf]; omega
theorem check_bad (s : Bs) (n : Nat) (h : s.length ≤ 2000) (hn : n < s.length) (ha : ∀ c ∈ s.take n, validB c = true) (hb : validB (gt s n) = false) : check s = (n, 4) := by
  have hf : s.findIdx? (fun b => !validB b) = some n := by
    rw [List.findIdx?_eq_some_iff_getElem]
    refine ⟨hn, by rw [gt_eq s n hn] at hb; simp [hb], fun j hj => ?_⟩
    have : s[j] ∈ s.take n := by
      rw [List.mem_take_iff_getElem]
      exact ⟨j, by omega, rfl⟩
    simp [ha _ this]
  simp [check, hf]; omega
theorem skipC_hash (r : Bs) : skipC false (35 :: r) = skipC true (35 :: r) := by simp [skipC, gapB]
theorem skipC_feed (r : Bs) : skipC false (10 :: r) = skipC true (10 :: r) := by simp [skipC, gapB]
theorem skipC_true (l : Bs) : skipC true l = while_ noFeed l + skipC false (l.drop (while_ noFeed l)) := by
  induction l with
  | nil => simp [skipC, while_]
  | cons b r ih =>
    by_cases hb : b = 10
    · subst hb; simp [while_, noFeed, skipC_feed]
    · have : while_ noFeed (b :: r) = while_ noFeed r + 1 := by unfold while_; rw [List.takeWhile_cons_of_pos (by simp [noFeed, hb])]; rfl
      rw [this]; simp [skipC, hb, ih]; omega
theorem while_le (p : UInt8 → Bool) (l : Bs) : while_ p l ≤ l.length := by
  unfold while_; exact (List.takeWhile_sublist p).length_le
theorem skip_gap (l : Bs) (n : Nat) (h : n < l.length) (hg : gapB (gt l n) = true) : skip (l.drop n) = 1 + skip (l.drop (n + 1)) := by
  rw [drop_gt l n h]; simp [skip, skipC, hg]
theorem skip_hash (l : Bs) (n : Nat) (h : n < l.length) (hg : gt l n = 35) : skip (l.drop n) = while_ noFeed (l.drop n) + skip (l.drop (n + while_ noFeed (l.drop n))) := by
  have e : skip (l.drop n) = skipC true (l.drop n) := by
    rw [drop_gt l n h, hg]; exact skipC_hash _
  rw [e, skipC_true, List.drop_drop]; rfl
theorem skip_stop (l : Bs) (n : Nat) (h : n < l.length) (hg : gapB (gt l n) = false) (hh : gt l n ≠ 35) : skip (l.drop n) = 0 := by
  rw [drop_gt l n h]; simp [skip, skipC, hg, hh]
theorem skip_end (l : Bs) (n : Nat) (h : l.length ≤ n) : skip (l.drop n) = 0 := by
  rw [List.drop_eq_nil_of_le h]; rfl
theorem skipC_le (b : Bool) (l : Bs) : skipC b l ≤ l.length := by
  induction l generalizing b with
  | nil => cases b <;> simp [skipC]
  | cons c r ih =>
    have h1 := ih true
    have h2 := ih false
    cases b <;> simp only [skipC, List.length_cons] <;> (repeat' split) <;> omega
theorem skip_le (l : Bs) : skip l ≤ l.length := skipC_le _ _
theorem skip_hash_pos (l : Bs) (n : Nat) (h : n < l.length) (hg : gt l n = 35) : 0 < while_ noFeed (l.drop n) := by
  rw [drop_gt l n h, hg]; unfold while_; rw [List.takeWhile_cons_of_pos (by simp [noFeed])]; simp
theorem skipT_step (l : Bs) (n : Nat) (h : n < l.length) (hg : gt l n ≠ 10) : skipC true (l.drop n) = 1 + skipC true (l.drop (n + 1)) := by
  rw [drop_gt l n h]; simp [skipC, hg]
theorem skipT_feed (l : Bs) (n : Nat) (h : n < l.length) (hg : gt l n = 10) : skipC true (l.drop n) = skip (l.drop n) := by
  rw [drop_gt l n h, hg]; exact (skipC_feed _).symm
theorem skipT_hash (l : Bs) (n : Nat) (h : n < l.length) (hg : gt l n = 35) : skipC true (l.drop n) = skip (l.drop n) := by
  rw [drop_gt l n h, hg]; exact (skipC_hash _).symm
theorem skipT_end (l : Bs) (n : Nat) (h : l.length ≤ n) : skipC true (l.drop n) = skip (l.drop n) := by
  rw [List.drop_eq_nil_of_le h]; rfl
end Mist
