/-
  PLAIN LAWS of chapter 2: pieces with gaps of any kind between them, and a gap at the end, are read as these pieces.
-/
import Derived.Test.YtpomgledekkjjaaDoorPlain9
import Derived.Test.YtpomgledekkjjaaDoorPlain17
namespace Mist
/-- What may follow a piece at once. -/
def after (t : Tok) (c : UInt8) : Bool :=
  if t.kind = 2 then !digitB c else if t.kind = 4 then first (t.text ++ [c]) == (4, t.text) else !partB c
def Follows (t : Tok) (r : Bs) : Prop := r = [] ∨ ∃ c r', r = c :: r' ∧ after t c = true
theorem word_stop (t r : Bs) (hr : r = [] ∨ ∃ c r', r = c :: r' ∧ partB c = false) (h0 : 0 < t.length) (hs : smallB (gt t 0) = true) (ha : t.all partB = true) (hk : first t ≠ (0, [])) : first (t ++ r) = first t := by
  have hw := while_stop partB t r ha hr
  have hw2 := while_stop partB t [] ha (.inl rfl)
  rw [List.append_nil] at hw2
  have hg : gt (t ++ r) 0 = gt t 0 := by cases t <;> simp_all [gt]
  have htk : (t ++ r).take (while_ partB (t ++ r)) = t := by rw [hw]; simp
  have htk2 : t.take (while_ partB t) = t := by rw [hw2]; simp
  have hl : ¬ (t ++ r).length = 0 := by rw [List.length_append]; omega
  have hl2 : ¬ t.length = 0 := by omega
  by_cases hkw : hasB keywords t = true
  · rw [first_kw _ hl (by rw [hg]; exact hs) (by rw [htk]; exact hkw), first_kw _ hl2 hs (by rw [htk2]; exact hkw), htk, htk2]
  · by_cases hn : t.length ≤ 12
    · rw [first_name _ hl (by rw [hg]; exact hs) (by rw [htk]; exact hkw) (by rw [hw]; exact hn), first_name _ hl2 hs (by rw [htk2]; exact hkw) (by rw [hw2]; exact hn), htk, htk2]
    · exact absurd (first_long _ hl2 hs (by rw [htk2]; exact hkw) (by rw [hw2]; exact hn)) hk
theorem num_stop (t r : Bs) (hr : r = [] ∨ ∃ c r', r = c :: r' ∧ digitB c = false) (h0 : 0 < t.length) (hs : smallB (gt t 0) = false) (hd : digitB (gt t 0) = true) (ha : t.all digitB = true) (hk : isNumber t = true) : first (t ++ r) = first t := by
  have hw := while_stop digitB t r ha hr
  have hw2 := while_stop digitB t [] ha (.inl rfl)
  rw [List.append_nil] at hw2
  have hg : gt (t ++ r) 0 = gt t 0 := by cases t <;> simp_all [gt]
  have htk : (t ++ r).take (while_ digitB (t ++ r)) = t := by rw [hw]; simp
  have htk2 : t.take (while_ digitB t) = t := by rw [hw2]; simp
  have hl : ¬ (t ++ r).length = 0 := by rw [List.length_append]; omega
  have hl2 : ¬ t.length = 0 := by omega
  rw [first_num _ hl (by rw [hg]; simp [hs]) (by rw [hg]; exact hd) (by rw [htk]; exact hk), first_num _ hl2 (by simp [hs]) hd (by rw [htk2]; exact hk), htk, htk2]
theorem sign_after : ∀ t ∈ pieces, t.kind = 4 → t.text.length = 2 ∨ ∀ n : Fin 256, after t (UInt8.ofNat n.val) = false → (first (t.text ++ [UInt8.ofNat n.val])).2 ≠ t.text := by decide +kernel
theorem piece_follow (t : Tok) (ht : t ∈ pieces) (r : Bs) (hr : Follows t r) : first (t.text ++ r) = (t.kind, t.text) := by
  rw [← piece_self t ht]
  rcases piece_kinds t ht with h | h | h | h
  · obtain ⟨h1, h2, h3, h4⟩ := piece_word t ht (.inl h)
    refine word_stop _ _ ?_ h1 h2 h3 h4
    rcases hr with h' | ⟨c, r', rfl, hc⟩
    · exact .inl h'
    · exact .inr ⟨c, r', rfl, by unfold after at hc; rw [if_neg (by omega), if_neg (by omega)] at hc; simpa using hc⟩
  · obtain ⟨h1, h2, h3, h4, h5⟩ := piece_num t ht h
    refine num_stop _ _ ?_ h1 h2 h3 h4 h5
    rcases hr with h' | ⟨c, r', rfl, hc⟩
    · exact .inl h'
    · exact .inr ⟨c, r', rfl, by unfold after at hc; rw [if_pos h] at hc; simpa using hc⟩
  · obtain ⟨h1, h2, h3, h4⟩ := piece_word t ht (.inr h)
    refine word_stop _ _ ?_ h1 h2 h3 h4
    rcases hr with h' | ⟨c, r', rfl, hc⟩
    · exact .inl h'
    · exact .inr ⟨c, r', rfl, by unfold after at hc; rw [if_neg (by omega), if_neg (by omega)] at hc; simpa using hc⟩
  · obtain ⟨h1, h2, h3⟩ := piece_sign t ht h
    rcases hr with rfl | ⟨c, r', rfl, hc⟩
    · rw [List.append_nil]
    · rcases h3 with h3 | h3
      · have hh : first (t.text ++ [c]) = (4, t.text) := by
          unfold after at hc; rw [if_neg (by omega), if_pos h] at hc; exact eq_of_beq hc
        rw [piece_self t ht, h]
        revert h1 h2 hh
        match t.text, h3 with
        | [x], _ =>
          intro h1 h2 hh
          show first (x :: c :: r') = _
          rw [first_two x c r' h1 h2]; exact hh
      · revert h1 h2
        match t.text, h3 with
        | [x, y], _ =>
          intro h1 h2
          exact first_two x y (c :: r') h1 h2
theorem while_more (p : UInt8 → Bool) (t r : Bs) (c : UInt8) (h : t.all p = true) (hc : p c = true) : t.length < while_ p (t ++ c :: r) := by
  have ht : ∀ b ∈ t, p b = true := by simpa using h
  unfold while_
  rw [List.takeWhile_append_of_pos ht, List.takeWhile_cons_of_pos hc]
  simp
theorem take_ne (s t : Bs) (n : Nat) (h : t.length < n) (hn : n ≤ s.length) : s.take n ≠ t := by
  intro e
  have := congrArg List.length e
  rw [List.length_take] at this
  omega
/-- A piece before what must not follow it is not read as it is. -/
theorem piece_wrong (t : Tok) (ht : t ∈ pieces) (c : UInt8) (r : Bs) (hc : after t c = false) : (first (t.text ++ c :: r)).2 ≠ t.text := by
  have hl : ¬ (t.text ++ c :: r).length = 0 := by simp
  have word : t.kind = 1 ∨ t.kind = 3 → (first (t.text ++ c :: r)).2 ≠ t.text := by
    intro h
    obtain ⟨h1, h2, h3, h4⟩ := piece_word t ht h
    have hp : partB c = true := by unfold after at hc; rw [if_neg (by omega), if_neg (by omega)] at hc; simpa using hc
    have hw := while_more partB t.text r c h3 hp
    have hw2 := while_le partB (t.text ++ c :: r)
    have hg : gt (t.text ++ c :: r) 0 = gt t.text 0 := by revert h1; cases t.text <;> simp [gt]
    have hne := take_ne _ _ _ hw hw2
    by_cases hkw : hasB keywords ((t.text ++ c :: r).take (while_ partB (t.text ++ c :: r))) = true
    · rw [first_kw _ hl (by rw [hg]; exact h2) hkw]; exact hne
    · by_cases hn : while_ partB (t.text ++ c :: r) ≤ 12
      · rw [first_name _ hl (by rw [hg]; exact h2) hkw hn]; exact hne
      · rw [first_long _ hl (by rw [hg]; exact h2) hkw hn]
        intro e
        rw [← e] at h1
        simp at h1
  rcases piece_kinds t ht with h | h | h | h
  · exact word (.inl h)
  · obtain ⟨h1, h2, h3, h4, h5⟩ := piece_num t ht h
    have hp : digitB c = true := by unfold after at hc; rw [if_pos h] at hc; simpa using hc
    have hw := while_more digitB t.text r c h4 hp
    have hw2 := while_le digitB (t.text ++ c :: r)
    have hg : gt (t.text ++ c :: r) 0 = gt t.text 0 := by revert h1; cases t.text <;> simp [gt]
    have hne := take_ne _ _ _ hw hw2
    by_cases hn : isNumber ((t.text ++ c :: r).take (while_ digitB (t.text ++ c :: r))) = true
    · rw [first_num _ hl (by rw [hg]; simp [h2]) (by rw [hg]; exact h3) hn]; exact hne
    · rw [first_nonum _ hl (by rw [hg]; simp [h2]) (by rw [hg]; exact h3) hn]
      intro e
      rw [← e] at h1
      simp at h1
  · exact word (.inr h)
  · obtain ⟨h1, h2, h3⟩ := piece_sign t ht h
    rcases h3 with h3 | h3
    · have hh := (sign_after t ht h).resolve_left (by omega) ⟨c.toNat, c.toNat_lt⟩
      rw [show UInt8.ofNat (⟨c.toNat, c.toNat_lt⟩ : Fin 256).val = c by simp] at hh
      have hh2 := hh hc
      revert h1 h2 hh2
      match t.text, h3 with
      | [x], _ =>
        intro h1 h2 hh
        show (first (x :: c :: r)).2 ≠ _
        rw [first_two x c r h1 h2]; exact hh
    · exfalso
      have e : first (t.text ++ [c]) = first t.text := by
        revert h1 h2
        match t.text, h3 with
        | [x, y], _ =>
          intro h1 h2
          exact first_two x y [c] h1 h2
      unfold after at hc
      rw [if_neg (by omega), if_pos h, e, piece_self t ht, h] at hc
      simp at hc
/-- A gap: what is skipped whole, whatever follows. -/
def GapT (g : Bs) : Prop := (∀ r, skip (g ++ r) = g.length + skip r) ∧ (g = [] ∨ ∃ c r, g = c :: r ∧ (c = 32 ∨ c = 10 ∨ c = 35)) ∧ g.all validB = true
/-- What may stand at the end. -/
def EndT (g : Bs) : Prop := skip g = g.length ∧ (g = [] ∨ ∃ c r, g = c :: r ∧ (c = 32 ∨ c = 10 ∨ c = 35)) ∧ g.all validB = true
theorem skip_spaces (n : Nat) (r : Bs) : skip (spaces n ++ r) = n + skip r := by
  induction n with
  | zero => simp [spaces]
  | succ n ih =>
    have e : spaces (n + 1) ++ r = 32 :: (spaces n ++ r) := by simp [spaces, List.replicate_succ]
    have e2 : skip (32 :: (spaces n ++ r)) = 1 + skip (spaces n ++ r) := by simp [skip, skipC, gapB]
    rw [e, e2, ih]; omega
theorem gapT_spaces (n : Nat) : GapT (spaces n) := by
  refine ⟨fun r => by rw [skip_spaces]; simp [spaces], ?_, ?_⟩
  · cases n with
    | zero => exact .inl rfl
    | succ n => exact .inr ⟨32, spaces n, by simp [spaces, List.replicate_succ], .inl rfl⟩
  · have e : validB 32 = true := by decide
    simp [spaces, e]
theorem gapT_nil : GapT [] := gapT_spaces 0
theorem gap_starts : ∀ g ∈ gapTexts, ∃ c r, g = c :: r ∧ (c = 32 ∨ c = 10 ∨ c = 35) := by
  intro g hg
  simp only [gapTexts, List.mem_cons, List.not_mem_nil, or_false] at hg
  rcases hg with rfl | rfl | rfl | rfl | rfl | rfl | rfl | rfl <;> exact ⟨_, _, rfl, by decide⟩
theorem gapT_gap (b : Nat) : GapT (gapOf b) := ⟨fun r => skip_gapText _ (gapOf_mem b) r, .inr (gap_starts _ (gapOf_mem b)), (gaps_valid _ (gapOf_mem b)).2⟩
theorem gapT_append {g h : Bs} (a : GapT g) (b : GapT h) : GapT (g ++ h) := by
  refine ⟨fun r => ?_, ?_, by rw [List.all_append, a.2.2, b.2.2]; rfl⟩
  · rw [List.append_assoc, a.1, b.1, List.length_append]; omega
  · rcases a.2.1 with rfl | ⟨c, r, rfl, hc⟩
    · exact b.2.1
    · exact .inr ⟨c, r ++ h, rfl, hc⟩
theorem endT_append {g h : Bs} (a : GapT g) (b : EndT h) : EndT (g ++ h) := by
  refine ⟨by rw [a.1, b.1, List.length_append], ?_, by rw [List.all_append, a.2.2, b.2.2]; rfl⟩
  rcases a.2.1 with rfl | ⟨c, r, rfl, hc⟩
  · exact b.2.1
  · exact .inr ⟨c, r ++ h, rfl, hc⟩
theorem endT_nil : EndT [] := ⟨rfl, .inl rfl, rfl⟩
/-- Pieces with gaps in front of them; a gap may fail where none is needed. -/
def FitE : Bs → List (Bs × Tok) → Prop
  | _, [] => True
  | last, (g, t) :: r => t ∈ pieces ∧ GapT g ∧ (g = [] → needB last t.text = false) ∧ FitE t.text r
def items : List (Bs × Tok) → List (Bs × Nat × Bs)
  | [] => []
  | (g, t) :: r => (g, t.kind, t.text) :: items r
theorem items_len (l : List (Bs × Tok)) : (items l).length = l.length := by
  induction l with
  | nil => rfl
  | cons x r ih => obtain ⟨g, t⟩ := x; simp [items, ih]
theorem items_append (l m : List (Bs × Tok)) : items (l ++ m) = items l ++ items m := by
  induction l with
  | nil => rfl
  | cons x r ih => obtain ⟨g, t⟩ := x; simp [items, ih]
theorem after_gap : ∀ t ∈ pieces, after t 32 = true ∧ after t 10 = true ∧ after t 35 = true := by decide +kernel
theorem glue_after : ∀ p ∈ pieces, ∀ q ∈ pieces, glue p.text q.text = !after p (gt q.text 0) := by decide +kernel
theorem piece_kind : ∀ t ∈ pieces, kind t.text = t.kind ∧ t.kind ≠ 0 ∧ 0 < t.text.length := by decide +kernel
theorem after_starts {t : Tok} (ht : t ∈ pieces) {c : UInt8} (h : c = 32 ∨ c = 10 ∨ c = 35) : after t c = true := by
  obtain ⟨h1, h2, h3⟩ := after_gap t ht
  rcases h with rfl | rfl | rfl <;> assumption
theorem fit_follow (t : Tok) (ht : t ∈ pieces) (l : List (Bs × Tok)) (h : FitE t.text l) (E : Bs) (hE : E = [] ∨ ∃ c r, E = c :: r ∧ (c = 32 ∨ c = 10 ∨ c = 35)) : Follows t (itemText (items l) ++ E) := by
  cases l with
  | nil =>
    rcases hE with rfl | ⟨c, r, rfl, hc⟩
    · exact .inl rfl
    · exact .inr ⟨c, r, rfl, after_starts ht hc⟩
  | cons x r =>
    obtain ⟨g, q⟩ := x
    obtain ⟨hq, hg, hn, _⟩ := h
    show Follows t (g ++ (q.text ++ itemText (items r)) ++ E)
    rcases hg.2.1 with rfl | ⟨c, r', rfl, hc⟩
    · have h1 := hn rfl
      rw [needB_of _ _ (piece_kind t ht).2.2, glue_after t ht q hq] at h1
      obtain ⟨c, r', hc⟩ : ∃ c r', q.text = c :: r' := by
        have := (piece_kind q hq).2.2
        match q.text, this with
        | c :: r', _ => exact ⟨c, r', rfl⟩
      rw [hc] at h1 ⊢
      exact .inr ⟨c, _, rfl, by simpa [gt] using h1⟩
    · exact .inr ⟨c, _, rfl, after_starts ht hc⟩
def GoodE (E : Bs) : List (Bs × Nat × Bs) → Prop
  | [] => True
  | (g, k, t) :: r => skip (g ++ (t ++ (itemText r ++ E))) = g.length ∧ first (t ++ (itemText r ++ E)) = (k, t) ∧ k ≠ 0 ∧ 0 < t.length ∧ GoodE E r
theorem fit_good (E : Bs) (hE : E = [] ∨ ∃ c r, E = c :: r ∧ (c = 32 ∨ c = 10 ∨ c = 35)) : ∀ (l : List (Bs × Tok)) (last : Bs), FitE last l → GoodE E (items l)
  | [], _, _ => trivial
  | (g, t) :: r, last, h => by
    obtain ⟨ht, hg, hn, hr⟩ := h
    refine ⟨?_, piece_follow t ht _ (fit_follow t ht r hr E hE), (piece_kind t ht).2.1, (piece_kind t ht).2.2, fit_good E hE r _ hr⟩
    rw [hg.1, skip_piece t ht]; rfl
theorem itemsE_placed (E : Bs) (hE : skip E = E.length) (its : List (Bs × Nat × Bs)) : ∀ (pre : Bs), GoodE E its → Placed (pre ++ (itemText its ++ E)) (pre.length + skip (itemText its ++ E)) (itemToks pre.length its) := by
  induction its with
  | nil => intro pre _; show (pre ++ (itemText [] ++ E)).length ≤ _; simp [itemText, hE]
  | cons x r ih =>
    obtain ⟨g, k, t⟩ := x
    intro pre hg
    obtain ⟨h1, h2, h3, h4, h5⟩ := hg
    have hi := ih (pre ++ g ++ t) h5
    have e : pre ++ (itemText ((g, k, t) :: r) ++ E) = (pre ++ g ++ t) ++ (itemText r ++ E) := by simp [itemText]
    have hs : skip (itemText ((g, k, t) :: r) ++ E) = g.length := by
      rw [← h1]; simp [itemText]
    rw [hs, e]
    have hd : ((pre ++ g ++ t) ++ (itemText r ++ E)).drop (pre.length + g.length) = t ++ (itemText r ++ E) := by
      rw [List.append_assoc (pre ++ g), List.drop_append_of_le_length (by simp)]
      simp
    have hd2 : ((pre ++ g ++ t) ++ (itemText r ++ E)).drop (pre.length + g.length + t.length) = itemText r ++ E := by
      rw [show pre.length + g.length + t.length = (pre ++ g ++ t).length by simp; omega]
      simp
    have hl : (pre ++ g ++ t).length = pre.length + g.length + t.length := by simp; omega
    rw [hl] at hi
    refine ⟨?_, rfl, by rw [hd]; exact h2, h3, ?_⟩
    · simp; omega
    · show Placed _ (pre.length + g.length + t.length + skip (List.drop (pre.length + g.length + t.length) _)) _
      rw [hd2]
      exact hi
theorem fit_valid : ∀ (l : List (Bs × Tok)) (last : Bs), FitE last l → (itemText (items l)).all validB = true
  | [], _, _ => rfl
  | (g, t) :: r, last, h => by
    obtain ⟨ht, hg, hn, hr⟩ := h
    show (g ++ (t.text ++ itemText (items r))).all validB = true
    rw [List.all_append, List.all_append, hg.2.2, (pieces_valid t ht).2, fit_valid r _ hr]; rfl
/-- READ AGAIN: pieces with gaps between them are read as they stand. -/
theorem read_fit (l : List (Bs × Tok)) (last E : Bs) (h : FitE last l) (hE : EndT E) (hn : l.length ≤ 800) (hl : (itemText (items l)).length + E.length ≤ 2000) : Mist.read (itemText (items l) ++ E) = (itemToks 0 (items l), 0, 0) := by
  have hp := itemsE_placed E hE.1 (items l) [] (fit_good E hE.2.1 l last h)
  simp only [List.nil_append, List.length_nil, Nat.zero_add] at hp
  have hv : (itemText (items l) ++ E).all validB = true := by rw [List.all_append, fit_valid l last h, hE.2.2]; rfl
  have hc : (check (itemText (items l) ++ E)).2 = 0 := by rw [check_ok _ (by rw [List.length_append]; omega) (fun c hc => List.all_eq_true.1 hv c hc)]
  have e : Mist.read (itemText (items l) ++ E) = readFrom ((itemText (items l) ++ E).length + 1) (itemText (items l) ++ E) (skip (itemText (items l) ++ E)) [] := by unfold Mist.read; rw [if_neg (by simpa using hc)]
  rw [e, readFrom_of_placed _ _ _ _ [] (by omega) (by simp [itemToks_len, items_len]; omega) hp]
  rfl
theorem read_fit0 (l : List (Bs × Tok)) (last : Bs) (h : FitE last l) (hn : l.length ≤ 800) (hl : (itemText (items l)).length ≤ 2000) : Mist.read (itemText (items l)) = (itemToks 0 (items l), 0, 0) := by
  have := read_fit l last [] h endT_nil hn (by simpa using hl)
  simpa using this
theorem fits_items : ∀ (l : List (Bs × Tok)) (last : Bs) (a : Nat) (b : Tok), FitE last l → b.at_ + (b.text.length : Int) ≤ a → fitsAll b (itemToks a (items l)) = true
  | [], _, _, _, _, _ => rfl
  | (g, t) :: r, last, a, b, h, hb => by
    obtain ⟨ht, hg, hn, hr⟩ := h
    obtain ⟨h1, h2, h3⟩ := piece_kind t ht
    have hi := fits_items r t.text (a + g.length + t.text.length) ⟨t.kind, t.text, ((a + g.length : Nat) : Int)⟩ hr (by simp)
    show (fitsB ⟨t.kind, t.text, ((a + g.length : Nat) : Int)⟩ b && fitsAll _ _) = true
    rw [hi, Bool.and_true]
    unfold fitsB
    simp only [Bool.and_eq_true, bne_iff_ne, beq_iff_eq, decide_eq_true_eq]
    refine ⟨⟨⟨by rw [h1]; exact h2, h1⟩, by omega⟩, by omega⟩
theorem last_items : ∀ (its : List (Bs × Nat × Bs)) (a : Nat) (b : Tok), b.at_ + (b.text.length : Int) ≤ a → (lastTok b (itemToks a its)).at_ + ((lastTok b (itemToks a its)).text.length : Int) ≤ ((a + (itemText its).length : Nat) : Int)
  | [], a, b, h => by simpa [itemToks, lastTok, itemText] using h
  | (g, k, t) :: r, a, b, h => by
    have := last_items r (a + g.length + t.length) ⟨k, t, ((a + g.length : Nat) : Int)⟩ (by simp)
    show (lastTok ⟨k, t, ((a + g.length : Nat) : Int)⟩ (itemToks (a + g.length + t.length) r)).at_ + ((lastTok ⟨k, t, ((a + g.length : Nat) : Int)⟩ (itemToks (a + g.length + t.length) r)).text.length : Int) ≤ ((a + (g ++ (t ++ itemText r)).length : Nat) : Int)
    simp only [List.length_append]
    omega
theorem check_fit (l : List (Bs × Tok)) (last : Bs) (h : FitE last l) (hn : l.length ≤ 800) (hl : (itemText (items l)).length ≤ 2000) : checkToks (itemToks 0 (items l)) = 0 := by
  refine checkToks_ok _ (by rw [itemToks_len, items_len]; omega) (fits_items l last 0 tok0 h (by simp [tok0])) ?_
  have := last_items (items l) 0 tok0 (by simp [tok0])
  omega
/-- The gaps as blanks. -/
def jG : List (Bs × Tok) → List (Bs × Tok)
  | [] => []
  | (g, t) :: r => (spaces g.length, t) :: jG r
theorem spaces_length (n : Nat) : (spaces n).length = n := by simp [spaces]
theorem spaces_nil {n : Nat} (h : spaces n = []) : n = 0 := by
  have := congrArg List.length h
  rw [spaces_length] at this
  exact this
theorem jG_fit : ∀ (l : List (Bs × Tok)) (last : Bs), FitE last l → FitE last (jG l)
  | [], _, _ => trivial
  | (_, _) :: r, _, h => ⟨h.1, gapT_spaces _, fun e => h.2.2.1 (List.eq_nil_of_length_eq_zero (spaces_nil e)), jG_fit r _ h.2.2.2⟩
theorem jG_len (l : List (Bs × Tok)) : (jG l).length = l.length := by
  induction l with
  | nil => rfl
  | cons x r ih => obtain ⟨g, t⟩ := x; simp [jG, ih]
theorem jG_text (l : List (Bs × Tok)) : (itemText (items (jG l))).length = (itemText (items l)).length := by
  induction l with
  | nil => rfl
  | cons x r ih => obtain ⟨g, t⟩ := x; simp [jG, items, itemText, ih, spaces_length]
theorem jG_toks (l : List (Bs × Tok)) : ∀ a, itemToks a (items (jG l)) = itemToks a (items l) := by
  induction l with
  | nil => intro a; rfl
  | cons x r ih => obtain ⟨g, t⟩ := x; intro a; simp [jG, items, itemToks, ih, spaces_length]
theorem joinGo_items : ∀ (l : List (Bs × Tok)) (last out : Bs), FitE last l → joinGo last out (itemToks out.length (items l)) = some (out ++ itemText (items (jG l)))
  | [], _, out, _ => by simp [items, itemToks, joinGo, jG, itemText]
  | (g, t) :: r, last, out, h => by
    obtain ⟨ht, hg, hn, hr⟩ := h
    show joinGo last out (⟨t.kind, t.text, ((out.length + g.length : Nat) : Int)⟩ :: itemToks (out.length + g.length + t.text.length) (items r)) = _
    rw [joinGo, if_neg]
    · have e : (((out.length + g.length : Nat) : Int)).toNat - out.length = g.length := by omega
      rw [e]
      have hl : out.length + g.length + t.text.length = (out ++ spaces g.length ++ t.text).length := by simp [spaces_length]; omega
      rw [hl, joinGo_items r t.text _ hr]
      simp [jG, items, itemText]
    · rintro ⟨h1, h2⟩
      simp only at h1 h2
      rw [hn (List.eq_nil_of_length_eq_zero (by omega))] at h2
      cases h2
theorem join_fit (l : List (Bs × Tok)) (h : FitE [] l) (hn : l.length ≤ 800) (hl : (itemText (items l)).length ≤ 2000) : joinOf (itemToks 0 (items l)) = (itemText (items (jG l)), 0) := by
  refine joinOf_some _ (check_fit l [] h hn hl) _ ?_
  have := joinGo_items l [] [] h
  simpa using this
/-- The gaps that are needed. -/
def tG : Bs → List (Bs × Tok) → List (Bs × Tok)
  | _, [] => []
  | last, (_, t) :: r => (spaces (gapN last t.text), t) :: tG t.text r
theorem gapN_zero {a b : Bs} (h : gapN a b = 0) : needB a b = false := by
  unfold gapN at h
  split at h
  · omega
  · simp_all
theorem tG_fit : ∀ (l : List (Bs × Tok)) (last : Bs), FitE last l → FitE last (tG last l)
  | [], _, _ => trivial
  | (_, _) :: r, _, h => ⟨h.1, gapT_spaces _, fun e => gapN_zero (spaces_nil e), tG_fit r _ h.2.2.2⟩
theorem tG_len (l : List (Bs × Tok)) : ∀ last, (tG last l).length = l.length := by
  induction l with
  | nil => intro _; rfl
  | cons x r ih => obtain ⟨g, t⟩ := x; intro last; simp [tG, ih]
theorem tG_text : ∀ (l : List (Bs × Tok)) (last : Bs), FitE last l → (itemText (items (tG last l))).length ≤ (itemText (items l)).length
  | [], _, _ => Nat.le_refl _
  | (g, t) :: r, last, h => by
    have hi := tG_text r t.text h.2.2.2
    have hg : gapN last t.text ≤ g.length := by
      unfold gapN
      split
      · rename_i hc
        cases hgl : g with
        | nil => rw [h.2.2.1 hgl] at hc; cases hc
        | cons a b => simp
      · omega
    simp only [tG, items, itemText, List.length_append, spaces_length]
    omega
theorem items_faces (l : List (Bs × Tok)) : ∀ a, (itemToks a (items l)).map faceOf = l.map fun x => faceOf x.2 := by
  induction l with
  | nil => intro a; rfl
  | cons x r ih => obtain ⟨g, t⟩ := x; intro a; simp [items, itemToks, ih, faceOf]
theorem tG_toks (l : List (Bs × Tok)) : ∀ last, (tG last l).map (fun x => faceOf x.2) = l.map fun x => faceOf x.2 := by
  induction l with
  | nil => intro _; rfl
  | cons x r ih => obtain ⟨g, t⟩ := x; intro last; simp [tG, ih]
theorem textGo_items : ∀ (l : List (Bs × Tok)) (last out : Bs) (a : Nat), textGo last out (itemToks a (items l)) = out ++ itemText (items (tG last l))
  | [], _, out, _ => by simp [items, itemToks, textGo, tG, itemText]
  | (g, t) :: r, last, out, a => by
    show textGo last out (⟨t.kind, t.text, ((a + g.length : Nat) : Int)⟩ :: itemToks (a + g.length + t.text.length) (items r)) = _
    rw [textGo, textGo_items r t.text]
    simp [tG, items, itemText]
theorem text_fit (l : List (Bs × Tok)) (h : FitE [] l) (hn : l.length ≤ 800) (hl : (itemText (items l)).length ≤ 2000) : textOf (itemToks 0 (items l)) = itemText (items (tG [] l)) := by
  unfold textOf
  rw [if_pos (check_fit l [] h hn hl), textGo_items]
  simp
theorem alike_of_faces {l m : List Tok} (h : l.map faceOf = m.map faceOf) : alikeB l m = true := by unfold alikeB; simpa using h
/-- What is made of bytes. -/
def mG : Option Bs → List (Nat × Nat) → List (Bs × Tok)
  | _, [] => []
  | prev, (x, b) :: r => (gapFor prev (pieceAt x).text b, pieceAt x) :: mG (some (pieceAt x).text) r
theorem mG_items : ∀ (bs : List (Nat × Nat)) (prev : Option Bs), items (mG prev bs) = madeItems prev bs
  | [], _ => rfl
  | (x, b) :: r, prev => by simp [mG, items, madeItems, mG_items r]
theorem mG_len : ∀ (bs : List (Nat × Nat)) (prev : Option Bs), (mG prev bs).length = bs.length
  | [], _ => rfl
  | (x, b) :: r, prev => by simp [mG, mG_len r]
theorem alone_glue : ∀ p ∈ pieces, ∀ q ∈ pieces, (aloneB p.text || aloneB q.text) = true → glue p.text q.text = false := by decide +kernel
theorem gapOf_ne (b : Nat) : gapOf b ≠ [] := by
  obtain ⟨c, r, h, _⟩ := gap_starts _ (gapOf_mem b)
  rw [h]; simp
theorem mG_fit : ∀ (bs : List (Nat × Nat)) (prev : Option Bs), (∀ p, prev = some p → ∃ t ∈ pieces, t.text = p) → FitE (prev.getD []) (mG prev bs)
  | [], _, _ => trivial
  | (x, b) :: r, prev, hp => by
    have hm := pieceAt_mem x
    refine ⟨hm, ?_, ?_, mG_fit r (some (pieceAt x).text) (fun p hp => ⟨_, hm, by injection hp⟩)⟩
    · unfold gapFor
      cases prev with
      | none => simp only; split; exact gapT_gap b; exact gapT_nil
      | some p => simp only; split; exact gapT_gap b; exact gapT_nil
    · cases prev with
      | none => intro _; exact needB_nil _
      | some p =>
        obtain ⟨t, ht, rfl⟩ := hp p rfl
        intro e
        rw [gapFor_some] at e
        split at e
        · exact absurd e (gapOf_ne b)
        · rename_i hc
          show needB t.text (pieceAt x).text = false
          rw [needB_of _ _ (piece_kind t ht).2.2]
          refine alone_glue t ht _ hm ?_
          cases h1 : aloneB t.text with
          | true => rfl
          | false =>
            cases h2 : aloneB (pieceAt x).text with
            | true => rfl
            | false => exact absurd (.inr ⟨h2, h1⟩) hc
end Mist
