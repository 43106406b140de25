/-
  PLAIN LAWS of chapter 2: texts that are put together out of gaps and tokens are read as these tokens; tokens by bytes, with gaps by bytes.
-/
import Derived.Test.YtpomgledekkjjaaDoorPlain11
import Derived.Test.YtpomgledekkjjaaDoorPlain12
namespace Mist
/-- Gaps and tokens, one after another, as a text. -/
def itemText : List (Bs × Nat × Bs) → Bs
  | [] => []
  | (g, _, t) :: r => g ++ (t ++ itemText r)
/-- Their tokens, from a place on. -/
def itemToks : Nat → List (Bs × Nat × Bs) → List Tok
  | _, [] => []
  | a, (g, k, t) :: r => ⟨k, t, ((a + g.length : Nat) : Int)⟩ :: itemToks (a + g.length + t.length) r
/-- Each gap is one, and each token is read as it stands before what follows. -/
def Good : List (Bs × Nat × Bs) → Prop
  | [] => True
  | (g, k, t) :: r => skip (g ++ (t ++ itemText r)) = g.length ∧ first (t ++ itemText r) = (k, t) ∧ k ≠ 0 ∧ 0 < t.length ∧ Good r
theorem items_placed (its : List (Bs × Nat × Bs)) : ∀ (pre : Bs), Good its → Placed (pre ++ itemText its) (pre.length + skip (itemText its)) (itemToks pre.length its) := by
  induction its with
  | nil => intro pre _; show (pre ++ itemText []).length ≤ _; simp [itemText]
  | cons x r ih =>
    obtain ⟨g, k, t⟩ := x
    intro pre hg
    obtain ⟨h1, h2, h3, h4, h5⟩ := hg
    have hi := ih (pre ++ g ++ t) h5
    have e : pre ++ itemText ((g, k, t) :: r) = (pre ++ g ++ t) ++ itemText r := by simp [itemText]
    have hs : skip (itemText ((g, k, t) :: r)) = g.length := h1
    rw [hs, e]
    have hd : ((pre ++ g ++ t) ++ itemText r).drop (pre.length + g.length) = t ++ itemText r := by
      rw [List.append_assoc (pre ++ g), List.drop_append_of_le_length (by simp)]
      simp
    have hd2 : ((pre ++ g ++ t) ++ itemText r).drop (pre.length + g.length + t.length) = itemText r := by
      rw [show pre.length + g.length + t.length = (pre ++ g ++ t).length by simp; omega]
      simp
    have hl : (pre ++ g ++ t).length = pre.length + g.length + t.length := by simp; omega
    rw [hl] at hi
    refine ⟨?_, rfl, by rw [hd]; exact h2, h3, ?_⟩
    · simp; omega
    · show Placed _ (pre.length + g.length + t.length + skip (List.drop (pre.length + g.length + t.length) _)) _
      rw [hd2]
      exact hi
theorem readFrom_of_placed (s : Bs) : ∀ (r : List Tok) (f a : Nat) (acc : List Tok), s.length < f + a → acc.length + r.length ≤ 800 → Placed s a r → readFrom f s a acc = (acc ++ r, 0, 0)
  | [], f, a, acc, hf, _, h => by
    have ha : s.length ≤ a := h
    cases f with
    | zero => rw [readFrom]; simp
    | succ f => rw [readFrom_end f s a acc ha]; simp
  | t :: r, f, a, acc, hf, hn, h => by
    obtain ⟨h1, h2, h3, h4, h5⟩ := h
    obtain ⟨f, rfl⟩ : ∃ f', f = f' + 1 := ⟨f - 1, by omega⟩
    have hk : ¬ (first (s.drop a)).1 = 0 := by rw [h3]; exact h4
    have hl := first_len _ hk
    rw [readFrom_step f s a acc (by omega) hk (by simp at hn; omega)]
    rw [h3] at hl ⊢
    have e : (⟨(t.kind, t.text).1, (t.kind, t.text).2, (a : Int)⟩ : Tok) = t := by
      cases t; simp at h2 ⊢; exact h2.symm
    rw [e]
    have := readFrom_of_placed s r f (a + t.text.length + skip (s.drop (a + t.text.length))) (acc ++ [t]) (by simp at hl; omega) (by simp at hn ⊢; omega) h5
    simp only [List.append_assoc, List.singleton_append] at this
    exact this
theorem itemToks_len (a : Nat) (its : List (Bs × Nat × Bs)) : (itemToks a its).length = its.length := by
  induction its generalizing a with
  | nil => rfl
  | cons x r ih => obtain ⟨g, k, t⟩ := x; simp [itemToks, ih]
/-- What is put together well is read as it was. -/
theorem read_items (its : List (Bs × Nat × Bs)) (h : Good its) (hn : its.length ≤ 800) (hc : (check (itemText its)).2 = 0) : Mist.read (itemText its) = (itemToks 0 its, 0, 0) := by
  have hp := items_placed its [] h
  simp only [List.nil_append, List.length_nil, Nat.zero_add] at hp
  have e : Mist.read (itemText its) = readFrom ((itemText its).length + 1) (itemText its) (skip (itemText its)) [] := by unfold Mist.read; rw [if_neg (by simpa using hc)]
  rw [e, readFrom_of_placed _ _ _ _ [] (by omega) (by simp [itemToks_len]; omega) hp]
  rfl
def heads : List UInt8 := [32, 10, 35, 40, 41, 91, 93, 123, 125, 44, 59, 58, 43, 45]
/-- What may follow any piece. -/
def Tail (r : Bs) : Prop := r = [] ∨ ∃ c r', r = c :: r' ∧ c ∈ heads
theorem while_stop (p : UInt8 → Bool) (t r : Bs) (h : t.all p = true) (hr : r = [] ∨ ∃ c r', r = c :: r' ∧ p c = false) : while_ p (t ++ r) = t.length := by
  have ht : ∀ b ∈ t, p b = true := by simpa using h
  unfold while_
  rw [List.takeWhile_append_of_pos ht]
  rcases hr with rfl | ⟨c, r', rfl, hc⟩
  · simp
  · rw [List.takeWhile_cons_of_neg (by simp [hc])]; simp
theorem heads_part : ∀ c ∈ heads, partB c = false := by decide
theorem heads_digit : ∀ c ∈ heads, digitB c = false := by decide
theorem tail_part {r : Bs} (h : Tail r) : r = [] ∨ ∃ c r', r = c :: r' ∧ partB c = false := by
  rcases h with h | ⟨c, r', h, hc⟩
  · exact .inl h
  · exact .inr ⟨c, r', h, heads_part c hc⟩
theorem tail_digit {r : Bs} (h : Tail r) : r = [] ∨ ∃ c r', r = c :: r' ∧ digitB c = false := by
  rcases h with h | ⟨c, r', h, hc⟩
  · exact .inl h
  · exact .inr ⟨c, r', h, heads_digit c hc⟩
theorem signs_two : ∀ g ∈ signs, g.length ≤ 2 := by decide
theorem prefB_two (g : Bs) (x y : UInt8) (r : Bs) (h : g.length ≤ 2) : prefB g (x :: y :: r) = prefB g [x, y] := by
  unfold prefB
  match g, h with
  | [], _ => rfl
  | [a], _ => simp [List.isPrefixOf]
  | [a, b], _ => simp [List.isPrefixOf]
theorem find_congr {p q : Bs → Bool} : ∀ (l : List Bs), (∀ g ∈ l, p g = q g) → l.find? p = l.find? q
  | [], _ => rfl
  | g :: l, h => by
    rw [List.find?_cons, List.find?_cons, h g (by simp), find_congr l (fun x hx => h x (by simp [hx]))]
theorem signOf_two (x y : UInt8) (r : Bs) : signOf (x :: y :: r) = signOf [x, y] := by
  unfold signOf
  exact find_congr signs fun g hg => prefB_two g x y r (signs_two g hg)
theorem first_two (x y : UInt8) (r : Bs) (hs : smallB x = false) (hd : digitB x = false) : first (x :: y :: r) = first [x, y] := by
  have h1 : ¬ smallB (gt (x :: y :: r) 0) = true := by show ¬ smallB x = true; simp [hs]
  have h2 : ¬ digitB (gt (x :: y :: r) 0) = true := by show ¬ digitB x = true; simp [hd]
  have h3 : ¬ smallB (gt [x, y] 0) = true := by show ¬ smallB x = true; simp [hs]
  have h4 : ¬ digitB (gt [x, y] 0) = true := by show ¬ digitB x = true; simp [hd]
  have e := signOf_two x y r
  cases hg : signOf [x, y] with
  | none => rw [first_none _ (by simp) h1 h2 (e.trans hg), first_none _ (by simp) h3 h4 hg]
  | some g => rw [first_sign _ (by simp) h1 h2 g (e.trans hg), first_sign _ (by simp) h3 h4 g hg]
/-- A piece before what may follow any is read as it is. -/
theorem word_tail (t r : Bs) (hr : Tail r) (h0 : 0 < t.length) (hs : smallB (gt t 0) = true) (ha : t.all partB = true) (hk : first t ≠ (0, [])) : first (t ++ r) = first t := by
  have hw := while_stop partB t r ha (tail_part hr)
  have hw2 := while_stop partB t [] ha (.inl rfl)
  rw [List.append_nil] at hw2
  have hg : gt (t ++ r) 0 = gt t 0 := by cases t <;> simp_all [gt]
  have htk : (t ++ r).take (while_ partB (t ++ r)) = t := by rw [hw]; simp
  have htk2 : t.take (while_ partB t) = t := by rw [hw2]; simp
  have hl : ¬ (t ++ r).length = 0 := by rw [List.length_append]; omega
  have hl2 : ¬ t.length = 0 := by omega
  by_cases hkw : hasB keywords t = true
  · rw [first_kw _ hl (by rw [hg]; exact hs) (by rw [htk]; exact hkw), first_kw _ hl2 hs (by rw [htk2]; exact hkw), htk, htk2]
  · by_cases hn : t.length ≤ 12
    · rw [first_name _ hl (by rw [hg]; exact hs) (by rw [htk]; exact hkw) (by rw [hw]; exact hn), first_name _ hl2 hs (by rw [htk2]; exact hkw) (by rw [hw2]; exact hn), htk, htk2]
    · exact absurd (first_long _ hl2 hs (by rw [htk2]; exact hkw) (by rw [hw2]; exact hn)) hk
theorem num_tail (t r : Bs) (hr : Tail r) (h0 : 0 < t.length) (hs : smallB (gt t 0) = false) (hd : digitB (gt t 0) = true) (ha : t.all digitB = true) (hk : isNumber t = true) : first (t ++ r) = first t := by
  have hw := while_stop digitB t r ha (tail_digit hr)
  have hw2 := while_stop digitB t [] ha (.inl rfl)
  rw [List.append_nil] at hw2
  have hg : gt (t ++ r) 0 = gt t 0 := by cases t <;> simp_all [gt]
  have htk : (t ++ r).take (while_ digitB (t ++ r)) = t := by rw [hw]; simp
  have htk2 : t.take (while_ digitB t) = t := by rw [hw2]; simp
  have hl : ¬ (t ++ r).length = 0 := by rw [List.length_append]; omega
  have hl2 : ¬ t.length = 0 := by omega
  rw [first_num _ hl (by rw [hg]; simp [hs]) (by rw [hg]; exact hd) (by rw [htk]; exact hk), first_num _ hl2 (by simp [hs]) hd (by rw [htk2]; exact hk), htk, htk2]
theorem sign_heads : ∀ t ∈ pieces, t.kind = 4 → t.text.length = 1 → ∀ c ∈ heads, first (t.text ++ [c]) = (4, t.text) := by decide +kernel
theorem piece_self : ∀ t ∈ pieces, first t.text = (t.kind, t.text) := by decide +kernel
theorem piece_word : ∀ t ∈ pieces, t.kind = 1 ∨ t.kind = 3 → 0 < t.text.length ∧ smallB (gt t.text 0) = true ∧ t.text.all partB = true ∧ first t.text ≠ (0, []) := by decide +kernel
theorem piece_num : ∀ t ∈ pieces, t.kind = 2 → 0 < t.text.length ∧ smallB (gt t.text 0) = false ∧ digitB (gt t.text 0) = true ∧ t.text.all digitB = true ∧ isNumber t.text = true := by decide +kernel
theorem piece_sign : ∀ t ∈ pieces, t.kind = 4 → smallB (gt t.text 0) = false ∧ digitB (gt t.text 0) = false ∧ (t.text.length = 1 ∨ t.text.length = 2) := by decide +kernel
theorem piece_kinds : ∀ t ∈ pieces, t.kind = 1 ∨ t.kind = 2 ∨ t.kind = 3 ∨ t.kind = 4 := by decide +kernel
theorem alone_heads : ∀ x ∈ aloneSigns, ∀ n : Fin 256, first (x ++ [UInt8.ofNat n.val]) = (4, x) := by decide +kernel
theorem alone_form : ∀ x ∈ aloneSigns, x.length = 1 ∧ smallB (gt x 0) = false ∧ digitB (gt x 0) = false ∧ first x = (4, x) := by decide +kernel
theorem piece_tail (t : Tok) (ht : t ∈ pieces) (r : Bs) (hr : Tail r) : first (t.text ++ r) = (t.kind, t.text) := by
  rw [← piece_self t ht]
  rcases piece_kinds t ht with h | h | h | h
  · obtain ⟨h1, h2, h3, h4⟩ := piece_word t ht (.inl h); exact word_tail _ _ hr h1 h2 h3 h4
  · obtain ⟨h1, h2, h3, h4, h5⟩ := piece_num t ht h; exact num_tail _ _ hr h1 h2 h3 h4 h5
  · obtain ⟨h1, h2, h3, h4⟩ := piece_word t ht (.inr h); exact word_tail _ _ hr h1 h2 h3 h4
  · obtain ⟨h1, h2, h3⟩ := piece_sign t ht h
    rcases hr with rfl | ⟨c, r', rfl, hc⟩
    · rw [List.append_nil]
    · rcases h3 with h3 | h3
      · have hh := sign_heads t ht h h3 c hc
        rw [piece_self t ht, h]
        revert h1 h2 hh
        match t.text, h3 with
        | [x], _ =>
          intro h1 h2 hh
          show first (x :: c :: r') = _
          rw [first_two x c r' h1 h2]; exact hh
      · revert h1 h2
        match t.text, h3 with
        | [x, y], _ =>
          intro h1 h2
          exact first_two x y (c :: r') h1 h2
theorem alone_tail (x : Bs) (hx : x ∈ aloneSigns) (r : Bs) : first (x ++ r) = (4, x) := by
  obtain ⟨h1, h2, h3, h4⟩ := alone_form x hx
  cases r with
  | nil => rw [List.append_nil]; exact h4
  | cons c r =>
    have hh := alone_heads x hx ⟨c.toNat, c.toNat_lt⟩
    rw [show UInt8.ofNat (⟨c.toNat, c.toNat_lt⟩ : Fin 256).val = c by simp] at hh
    revert h2 h3 hh
    match x, h1 with
    | [a], _ =>
      intro h2 h3 hh
      show first (a :: c :: r) = _
      rw [first_two a c r h2 h3]; exact hh
def gapFor (prev : Option Bs) (t : Bs) (b : Nat) : Bs :=
  match prev with
  | none => if 128 ≤ b then gapOf b else []
  | some p => if 100 ≤ b ∨ (aloneB t = false ∧ aloneB p = false) then gapOf b else []
def pieceAt (x : Nat) : Tok := tg pieces (x % 31)
def madeItems : Option Bs → List (Nat × Nat) → List (Bs × Nat × Bs)
  | _, [] => []
  | prev, (x, b) :: r => (gapFor prev (pieceAt x).text b, (pieceAt x).kind, (pieceAt x).text) :: madeItems (some (pieceAt x).text) r
theorem pieceAt_mem (x : Nat) : pieceAt x ∈ pieces := tg_mem pieces (x % 31) (by show x % 31 < 31; omega)
theorem gapOf_mem (b : Nat) : gapOf b ∈ gapTexts := by
  unfold gapOf
  rw [sg_eq _ _ (by show b % 8 < 8; omega)]
  exact List.getElem_mem _
theorem gap_head : ∀ g ∈ gapTexts, ∃ c r, g = c :: r ∧ c ∈ heads := by
  intro g hg
  simp only [gapTexts, List.mem_cons, List.not_mem_nil, or_false] at hg
  rcases hg with rfl | rfl | rfl | rfl | rfl | rfl | rfl | rfl <;> exact ⟨_, _, rfl, by decide⟩
theorem alone_head : ∀ g ∈ aloneSigns, ∃ c r, g = c :: r ∧ c ∈ heads := by
  intro g hg
  simp only [aloneSigns, List.mem_cons, List.not_mem_nil, or_false] at hg
  rcases hg with rfl | rfl | rfl | rfl | rfl | rfl | rfl | rfl | rfl | rfl | rfl <;> exact ⟨_, _, rfl, by decide⟩
theorem tail_of_head {g r : Bs} (h : ∃ c r, g = c :: r ∧ c ∈ heads) : Tail (g ++ r) := by
  obtain ⟨c, r', rfl, hc⟩ := h
  exact .inr ⟨c, r' ++ r, rfl, hc⟩
theorem alone_mem {x : Bs} (h : aloneB x = true) : x ∈ aloneSigns := by
  unfold aloneB hasB at h; simpa using h
theorem next_tail (p : Bs) (bs : List (Nat × Nat)) (h : aloneB p = false) : Tail (itemText (madeItems (some p) bs)) := by
  cases bs with
  | nil => exact .inl rfl
  | cons y r =>
    obtain ⟨x, b⟩ := y
    show Tail (gapFor (some p) (pieceAt x).text b ++ ((pieceAt x).text ++ itemText (madeItems (some (pieceAt x).text) r)))
    unfold gapFor
    simp only
    split
    · exact tail_of_head (gap_head _ (gapOf_mem b))
    · rename_i hc
      have ha : aloneB (pieceAt x).text = true := by
        cases h2 : aloneB (pieceAt x).text with
        | true => rfl
        | false => exact absurd (.inr ⟨h2, h⟩) hc
      rw [List.nil_append]
      exact tail_of_head (alone_head _ (alone_mem ha))
theorem piece_start : ∀ t ∈ pieces, gapB (gt t.text 0) = false ∧ gt t.text 0 ≠ 35 ∧ 0 < t.text.length ∧ t.kind ≠ 0 := by decide +kernel
theorem skip_piece (t : Tok) (h : t ∈ pieces) (r : Bs) : skip (t.text ++ r) = 0 := by
  obtain ⟨h1, h2, h3, _⟩ := piece_start t h
  revert h1 h2
  match t.text, h3 with
  | c :: x, _ =>
    intro h1 h2
    have := skip_stop (c :: x ++ r) 0 (by simp) h1 h2
    simpa using this
theorem skip_gapText (g : Bs) (h : g ∈ gapTexts) (r : Bs) : skip (g ++ r) = g.length + skip r := by
  simp only [gapTexts, List.mem_cons, List.not_mem_nil, or_false] at h
  rcases h with rfl | rfl | rfl | rfl | rfl | rfl | rfl | rfl <;> (simp [skip, skipC, gapB]; try omega)
theorem skip_gapFor (prev : Option Bs) (t : Tok) (h : t ∈ pieces) (b : Nat) (r : Bs) : skip (gapFor prev t.text b ++ (t.text ++ r)) = (gapFor prev t.text b).length := by
  have hz : skip ([] ++ (t.text ++ r)) = ([] : Bs).length := skip_piece t h r
  have hg : skip (gapOf b ++ (t.text ++ r)) = (gapOf b).length := by rw [skip_gapText _ (gapOf_mem b), skip_piece t h r]; rfl
  unfold gapFor
  cases prev with
  | none => simp only; split; exact hg; exact hz
  | some p => simp only; split; exact hg; exact hz
theorem made_good : ∀ (bs : List (Nat × Nat)) (prev : Option Bs), Good (madeItems prev bs)
  | [], _ => trivial
  | (x, b) :: r, prev => by
    have hm := pieceAt_mem x
    obtain ⟨_, _, h3, h4⟩ := piece_start _ hm
    refine ⟨skip_gapFor prev _ hm b _, ?_, h4, h3, made_good r _⟩
    cases ha : aloneB (pieceAt x).text with
    | true =>
      have h5 := alone_tail _ (alone_mem ha) (itemText (madeItems (some (pieceAt x).text) r))
      have h6 := alone_tail _ (alone_mem ha) []
      rw [List.append_nil, piece_self _ hm] at h6
      rw [h5, h6]
    | false => exact piece_tail _ hm _ (next_tail _ _ ha)
theorem made_len : ∀ (bs : List (Nat × Nat)) (prev : Option Bs), (madeItems prev bs).length = bs.length
  | [], _ => rfl
  | (x, b) :: r, prev => by simp [madeItems, made_len r]
theorem pieces_valid : ∀ t ∈ pieces, t.text.length ≤ 12 ∧ t.text.all validB = true := by decide +kernel
theorem gaps_valid : ∀ g ∈ gapTexts, g.length ≤ 8 ∧ g.all validB = true := by decide +kernel
theorem gapFor_valid (prev : Option Bs) (t : Bs) (b : Nat) : (gapFor prev t b).length ≤ 8 ∧ (gapFor prev t b).all validB = true := by
  have h := gaps_valid _ (gapOf_mem b)
  unfold gapFor
  cases prev with
  | none => simp only; split; exact h; exact ⟨by simp, rfl⟩
  | some p => simp only; split; exact h; exact ⟨by simp, rfl⟩
theorem made_valid : ∀ (bs : List (Nat × Nat)) (prev : Option Bs), (itemText (madeItems prev bs)).length ≤ bs.length * 20 ∧ (itemText (madeItems prev bs)).all validB = true
  | [], _ => ⟨by simp [madeItems, itemText], rfl⟩
  | (x, b) :: r, prev => by
    obtain ⟨h1, h2⟩ := made_valid r (some (pieceAt x).text)
    obtain ⟨h3, h4⟩ := gapFor_valid prev (pieceAt x).text b
    obtain ⟨h5, h6⟩ := pieces_valid _ (pieceAt_mem x)
    constructor
    · show (gapFor prev (pieceAt x).text b ++ ((pieceAt x).text ++ itemText (madeItems (some (pieceAt x).text) r))).length ≤ (r.length + 1) * 20
      simp only [List.length_append]
      omega
    · show (gapFor prev (pieceAt x).text b ++ ((pieceAt x).text ++ itemText (madeItems (some (pieceAt x).text) r))).all validB = true
      rw [List.all_append, List.all_append, h2, h4, h6]; rfl
def madeText (bs : List (Nat × Nat)) : Bs := itemText (madeItems none bs)
def madeToks (bs : List (Nat × Nat)) : List Tok := itemToks 0 (madeItems none bs)
/-- READ AGAIN: what was made is read as it was made. -/
theorem read_made (bs : List (Nat × Nat)) (h : bs.length ≤ 100) : Mist.read (madeText bs) = (madeToks bs, 0, 0) := by
  obtain ⟨h1, h2⟩ := made_valid bs none
  refine read_items _ (made_good bs none) (by rw [made_len]; omega) ?_
  rw [check_ok _ (by omega) (by simpa using h2)]
theorem itemText_append (a b : List (Bs × Nat × Bs)) : itemText (a ++ b) = itemText a ++ itemText b := by
  induction a with
  | nil => rfl
  | cons x r ih => obtain ⟨g, k, t⟩ := x; simp [itemText, ih]
theorem itemToks_append (a b : List (Bs × Nat × Bs)) (p : Nat) : itemToks p (a ++ b) = itemToks p a ++ itemToks (p + (itemText a).length) b := by
  induction a generalizing p with
  | nil => simp [itemToks, itemText]
  | cons x r ih =>
    obtain ⟨g, k, t⟩ := x
    simp only [List.cons_append, itemToks, itemText, ih, List.length_append]
    rw [show p + g.length + t.length + (itemText r).length = p + (g.length + (t.length + (itemText r).length)) by omega]
/-- What was made last. -/
def lastOf : Option Bs → List (Nat × Nat) → Option Bs
  | prev, [] => prev
  | _, (x, _) :: r => lastOf (some (pieceAt x).text) r
theorem madeItems_snoc (bs : List (Nat × Nat)) (x b : Nat) : ∀ prev, madeItems prev (bs ++ [(x, b)]) = madeItems prev bs ++ [(gapFor (lastOf prev bs) (pieceAt x).text b, (pieceAt x).kind, (pieceAt x).text)] := by
  induction bs with
  | nil => intro prev; rfl
  | cons y r ih => obtain ⟨x', b'⟩ := y; intro prev; simp [madeItems, lastOf, ih]
theorem madeText_snoc (bs : List (Nat × Nat)) (x b : Nat) : madeText (bs ++ [(x, b)]) = madeText bs ++ gapFor (lastOf none bs) (pieceAt x).text b ++ (pieceAt x).text := by
  unfold madeText; rw [madeItems_snoc, itemText_append]; simp [itemText]
theorem madeToks_snoc (bs : List (Nat × Nat)) (x b : Nat) : madeToks (bs ++ [(x, b)]) = madeToks bs ++ [⟨(pieceAt x).kind, (pieceAt x).text, (((madeText bs ++ gapFor (lastOf none bs) (pieceAt x).text b).length : Nat) : Int)⟩] := by
  unfold madeToks madeText; rw [madeItems_snoc, itemToks_append]; simp [itemToks]
theorem madeToks_len (bs : List (Nat × Nat)) : (madeToks bs).length = bs.length := by unfold madeToks; rw [itemToks_len, made_len]
theorem lastOf_snoc (bs : List (Nat × Nat)) (x b : Nat) : ∀ prev, lastOf prev (bs ++ [(x, b)]) = some (pieceAt x).text := by
  induction bs with
  | nil => intro prev; rfl
  | cons y r ih => obtain ⟨x', b'⟩ := y; intro prev; exact ih _
theorem madeToks_last (bs : List (Nat × Nat)) (x b : Nat) : tg (madeToks (bs ++ [(x, b)])) bs.length = ⟨(pieceAt x).kind, (pieceAt x).text, (((madeText bs ++ gapFor (lastOf none bs) (pieceAt x).text b).length : Nat) : Int)⟩ := by
  rw [madeToks_snoc]
  unfold tg
  rw [List.getD_eq_getElem?_getD, List.getElem?_append_right (by rw [madeToks_len]; exact Nat.le_refl _), madeToks_len]
  simp
theorem madeText_len (bs : List (Nat × Nat)) : (madeText bs).length ≤ bs.length * 20 := (made_valid bs none).1
theorem gapFor_none (t : Bs) (b : Nat) : gapFor none t b = if 128 ≤ b then gapOf b else [] := rfl
theorem gapFor_some (p t : Bs) (b : Nat) : gapFor (some p) t b = if 100 ≤ b ∨ (aloneB t = false ∧ aloneB p = false) then gapOf b else [] := rfl
end Mist
