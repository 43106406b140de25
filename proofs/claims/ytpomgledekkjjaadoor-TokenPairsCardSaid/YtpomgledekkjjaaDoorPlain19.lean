/-
  PLAIN LAWS of chapter 2: made tokens are read again, joined, in their shortest text, and with one more gap.
-/
import Derived.Test.YtpomgledekkjjaaDoorPlain6
import Derived.Test.YtpomgledekkjjaaDoorPlain7
import Derived.Test.YtpomgledekkjjaaDoorPlain18
namespace Mist
theorem made_fit (bs : List (Nat × Nat)) : FitE [] (mG none bs) := mG_fit bs none (fun p h => by cases h)
theorem made_text (bs : List (Nat × Nat)) : itemText (items (mG none bs)) = madeText bs := by rw [mG_items]; rfl
theorem mG_tks (bs : List (Nat × Nat)) : itemToks 0 (items (mG none bs)) = madeToks bs := by rw [mG_items]; rfl
/-- The text of made tokens at their places; the shortest one; its tokens. -/
def madeJoin (bs : List (Nat × Nat)) : Bs := itemText (items (jG (mG none bs)))
def madeShort (bs : List (Nat × Nat)) : Bs := itemText (items (tG [] (mG none bs)))
def shortToks (bs : List (Nat × Nat)) : List Tok := itemToks 0 (items (tG [] (mG none bs)))
section
variable (bs : List (Nat × Nat)) (h : bs.length ≤ 60)
include h
theorem made_wide : (itemText (items (mG none bs))).length ≤ 2000 := by rw [made_text]; have := madeText_len bs; omega
theorem made_check : checkToks (madeToks bs) = 0 := by
  rw [← mG_tks]; exact check_fit _ [] (made_fit bs) (by rw [mG_len]; omega) (made_wide bs h)
theorem made_join : joinOf (madeToks bs) = (madeJoin bs, 0) := by
  rw [← mG_tks]; exact join_fit _ (made_fit bs) (by rw [mG_len]; omega) (made_wide bs h)
theorem made_short : textOf (madeToks bs) = madeShort bs := by
  rw [← mG_tks]; exact text_fit _ (made_fit bs) (by rw [mG_len]; omega) (made_wide bs h)
theorem read_join : Mist.read (madeJoin bs) = (madeToks bs, 0, 0) := by
  have := read_fit0 (jG (mG none bs)) [] (jG_fit _ _ (made_fit bs)) (by rw [jG_len, mG_len]; omega) (by rw [jG_text]; exact made_wide bs h)
  rw [jG_toks, mG_tks] at this
  exact this
theorem read_least : Mist.read (madeShort bs) = (shortToks bs, 0, 0) :=
  read_fit0 (tG [] (mG none bs)) [] (tG_fit _ _ (made_fit bs)) (by rw [tG_len, mG_len]; omega) (Nat.le_trans (tG_text _ _ (made_fit bs)) (made_wide bs h))
end
theorem madeJoin_len (bs : List (Nat × Nat)) : (madeJoin bs).length = (madeText bs).length := by unfold madeJoin; rw [jG_text, made_text]
theorem madeShort_len (bs : List (Nat × Nat)) : (madeShort bs).length ≤ (madeText bs).length := by unfold madeShort; rw [← made_text]; exact tG_text _ _ (made_fit bs)
theorem short_alike (bs : List (Nat × Nat)) : alikeB (madeToks bs) (shortToks bs) = true := by
  refine alike_of_faces ?_
  rw [← mG_tks, items_faces]
  unfold shortToks
  rw [items_faces, tG_toks]
theorem short_same (bs : List (Nat × Nat)) (h : bs.length ≤ 60) : sameOf (madeText bs) (madeShort bs) = (true, 0) := by
  rw [sameOf_both _ _ (by rw [read_made bs (by omega)]) (by rw [read_least bs h]), read_made bs (by omega), read_least bs h, short_alike]
/-! ### one more gap -/
theorem fit_more (A : List (Bs × Tok)) (g h : Bs) (t : Tok) (B : List (Bs × Tok)) (hh : GapT h) : ∀ last, FitE last (A ++ (g, t) :: B) → FitE last (A ++ (g ++ h, t) :: B) := by
  induction A with
  | nil =>
    intro last hf
    exact ⟨hf.1, gapT_append hf.2.1 hh, fun e => hf.2.2.1 (List.append_eq_nil_iff.1 e).1, hf.2.2.2⟩
  | cons x r ih =>
    obtain ⟨g', t'⟩ := x
    intro last hf
    exact ⟨hf.1, hf.2.1, hf.2.2.1, ih _ hf.2.2.2⟩
theorem endT_tail : EndT [32, 35, 32, 93] := by
  refine ⟨by decide, .inr ⟨32, _, rfl, .inl rfl⟩, by decide⟩
theorem tg_mid (A : List (Bs × Tok)) (g : Bs) (t : Tok) (B : List (Bs × Tok)) (n : Nat) (hn : n = A.length) : (tg (itemToks 0 (items (A ++ (g, t) :: B))) n).at_ = (((itemText (items A)).length + g.length : Nat) : Int) := by
  rw [items_append, itemToks_append]
  unfold tg
  rw [List.getD_eq_getElem?_getD, List.getElem?_append_right (by rw [itemToks_len, items_len]; omega), itemToks_len, items_len, hn, Nat.sub_self]
  simp [items, itemToks]
theorem gaps_read (bs : List (Nat × Nat)) (h : bs.length ≤ 40) (a : Nat) (ha : (∃ n, n < bs.length ∧ (tg (madeToks bs) n).at_ = (a : Int)) ∨ a = (madeText bs).length) (v : Nat) :
    a ≤ (madeText bs).length ∧ ∃ m, Mist.read ((madeText bs).take a ++ gapOf v ++ (madeText bs).drop a ++ [32, 35, 32, 93]) = (m, 0, 0) ∧ alikeB (madeToks bs) m = true ∧
      sameOf (madeText bs) ((madeText bs).take a ++ gapOf v ++ (madeText bs).drop a ++ [32, 35, 32, 93]) = (true, 0) := by
  have hm := madeText_len bs
  have hgl := (gaps_valid _ (gapOf_mem v)).1
  have fin : ∀ m, Mist.read ((madeText bs).take a ++ gapOf v ++ (madeText bs).drop a ++ [32, 35, 32, 93]) = (m, 0, 0) → m.map faceOf = (madeToks bs).map faceOf →
      ∃ m, Mist.read ((madeText bs).take a ++ gapOf v ++ (madeText bs).drop a ++ [32, 35, 32, 93]) = (m, 0, 0) ∧ alikeB (madeToks bs) m = true ∧
      sameOf (madeText bs) ((madeText bs).take a ++ gapOf v ++ (madeText bs).drop a ++ [32, 35, 32, 93]) = (true, 0) := by
    intro m h1 h2
    have h3 := alike_of_faces h2.symm
    refine ⟨m, h1, h3, ?_⟩
    rw [sameOf_both _ _ (by rw [read_made bs (by omega)]) (by rw [h1]), h1, read_made bs (by omega)]
    simp only [h3]
  rcases ha with ⟨n, hn, hat⟩ | rfl
  · have hln : n < (mG none bs).length := by rw [mG_len]; exact hn
    obtain ⟨g, t⟩ : Bs × Tok := ((mG none bs)[n])
    have hsp : ∃ A g t B, mG none bs = A ++ (g, t) :: B ∧ A.length = n := by
      refine ⟨(mG none bs).take n, ((mG none bs)[n]).1, ((mG none bs)[n]).2, (mG none bs).drop (n + 1), ?_, by rw [List.length_take]; omega⟩
      rw [show (((mG none bs)[n]).1, ((mG none bs)[n]).2) = (mG none bs)[n] from rfl, ← List.drop_eq_getElem_cons hln, List.take_append_drop]
    obtain ⟨A, g, t, B, hs, hA⟩ := hsp
    rw [← mG_tks, hs, tg_mid A g t B n hA.symm] at hat
    have hae : a = (itemText (items A) ++ g).length := by rw [List.length_append]; omega
    have ht : madeText bs = (itemText (items A) ++ g) ++ (t.text ++ itemText (items B)) := by
      rw [← made_text, hs, items_append, itemText_append]; simp [items, itemText]
    have hf := fit_more A g (gapOf v) t B (gapT_gap v) [] (by rw [← hs]; exact made_fit bs)
    have htx : itemText (items (A ++ (g ++ gapOf v, t) :: B)) = (madeText bs).take a ++ gapOf v ++ (madeText bs).drop a := by
      rw [ht, hae, List.take_left, List.drop_left, items_append, itemText_append]; simp [items, itemText]
    have hlen : (itemText (items (A ++ (g ++ gapOf v, t) :: B))).length = (madeText bs).length + (gapOf v).length := by
      rw [htx]; simp only [List.length_append, List.length_take, List.length_drop]
      have : a ≤ (madeText bs).length := by rw [ht, hae]; simp
      omega
    refine ⟨by rw [ht, hae]; simp, ?_⟩
    have hr := read_fit _ [] [32, 35, 32, 93] hf endT_tail (by
      have := mG_len bs none
      rw [hs] at this
      simp only [List.length_append, List.length_cons] at this ⊢
      omega) (by rw [hlen]; simp; omega)
    rw [htx] at hr
    refine fin _ hr ?_
    rw [items_faces, ← mG_tks, items_faces, hs]
    simp
  · refine ⟨Nat.le_refl _, ?_⟩
    rw [List.take_length, List.drop_length, List.append_nil] at fin ⊢
    have hr := read_fit (mG none bs) [] (gapOf v ++ [32, 35, 32, 93]) (made_fit bs) (endT_append (gapT_gap v) endT_tail) (by rw [mG_len]; omega) (by rw [made_text]; simp; omega)
    rw [made_text, ← List.append_assoc] at hr
    exact fin _ hr (by rw [mG_tks])
/-! ### no blank could be left out -/
def lastT : Bs → List (Bs × Tok) → Bs
  | last, [] => last
  | _, (_, t) :: r => lastT t.text r
theorem lastT_snoc (A : List (Bs × Tok)) (g : Bs) (t : Tok) : ∀ last, lastT last (A ++ [(g, t)]) = t.text := by
  induction A with
  | nil => intro _; rfl
  | cons x r ih => obtain ⟨g', t'⟩ := x; intro last; exact ih _
theorem tG_append (A B : List (Bs × Tok)) : ∀ last, tG last (A ++ B) = tG last A ++ tG (lastT last A) B := by
  induction A with
  | nil => intro _; rfl
  | cons x r ih => obtain ⟨g', t'⟩ := x; intro last; simp [tG, lastT, ih]
theorem piece_noblank : ∀ t ∈ pieces, ∀ c ∈ t.text, c ≠ 32 := by decide +kernel
theorem gt_append_right (l m : Bs) (i : Nat) (h : l.length ≤ i) : gt (l ++ m) i = gt m (i - l.length) := by
  unfold gt; rw [List.getD_eq_getElem?_getD, List.getElem?_append_right h, List.getD_eq_getElem?_getD]
theorem gt_append_left (l m : Bs) (i : Nat) (h : i < l.length) : gt (l ++ m) i = gt l i := by
  unfold gt; rw [List.getD_eq_getElem?_getD, List.getElem?_append_left h, List.getD_eq_getElem?_getD]
theorem gt_in (l : Bs) (i : Nat) (h : i < l.length) : gt l i ∈ l := by rw [gt_eq l i h]; exact List.getElem_mem h
theorem blank_at : ∀ (l : List (Bs × Tok)) (last : Bs) (i : Nat), FitE last l → i < (itemText (items (tG last l))).length → gt (itemText (items (tG last l))) i = 32 →
    ∃ A g t B, l = A ++ (g, t) :: B ∧ needB (lastT last A) t.text = true ∧ i = (itemText (items (tG last A))).length
  | [], last, i, _, hi, _ => absurd hi (by simp [tG, items, itemText])
  | (g, t) :: r, last, i, h, hi, hb => by
    obtain ⟨ht, _, _, hr⟩ := h
    have htx : itemText (items (tG last ((g, t) :: r))) = (spaces (gapN last t.text) ++ t.text) ++ itemText (items (tG t.text r)) := by simp [tG, items, itemText]
    rw [htx] at hi hb
    have hpl : (spaces (gapN last t.text) ++ t.text).length = gapN last t.text + t.text.length := by rw [List.length_append, spaces_length]
    by_cases h1 : i < gapN last t.text
    · have hg1 := gapN_le last t.text
      refine ⟨[], g, t, r, rfl, ?_, by simp [tG, items, itemText]; omega⟩
      show needB last t.text = true
      cases hn : needB last t.text with
      | true => rfl
      | false => unfold gapN at h1; rw [hn] at h1; simp at h1
    · by_cases h2 : i < gapN last t.text + t.text.length
      · exfalso
        rw [gt_append_left _ _ _ (by omega), gt_append_right _ _ _ (by rw [spaces_length]; omega), spaces_length] at hb
        exact piece_noblank t ht _ (gt_in t.text _ (by omega)) hb
      · rw [gt_append_right _ _ _ (by omega), hpl] at hb
        rw [List.length_append, hpl] at hi
        obtain ⟨A, g', t', B, e1, e2, e3⟩ := blank_at r t.text (i - (gapN last t.text + t.text.length)) hr (by omega) hb
        refine ⟨(g, t) :: A, g', t', B, by rw [e1]; rfl, e2, ?_⟩
        have : itemText (items (tG last ((g, t) :: A))) = (spaces (gapN last t.text) ++ t.text) ++ itemText (items (tG t.text A)) := by simp [tG, items, itemText]
        rw [this, List.length_append, hpl, ← e3]
        omega
theorem follows_append {t : Tok} {Z : Bs} (Y : Bs) (h : Follows t Z) (h0 : Z ≠ []) : Follows t (Z ++ Y) := by
  rcases h with h | ⟨c, r, rfl, hc⟩
  · exact absurd h h0
  · exact .inr ⟨c, r ++ Y, rfl, hc⟩
theorem placed_items (g : Bs) (p : Tok) (Y : Bs) : ∀ (A : List (Bs × Tok)) (pre last : Bs) (m : List Tok), FitE last (A ++ [(g, p)]) →
    Placed (pre ++ (itemText (items A) ++ (g ++ (p.text ++ Y)))) (pre.length + skip (itemText (items A) ++ (g ++ (p.text ++ Y)))) m →
    ∃ m', m.map faceOf = A.map (fun x => faceOf x.2) ++ m'.map faceOf ∧ Placed (pre ++ (itemText (items A) ++ (g ++ (p.text ++ Y)))) (pre.length + (itemText (items A)).length + skip (g ++ (p.text ++ Y))) m'
  | [], pre, last, m, _, h => ⟨m, rfl, by simpa [items, itemText] using h⟩
  | (g0, t0) :: r, pre, last, m, hf, h => by
    obtain ⟨ht, hg, hn, hr⟩ := hf
    have hr : FitE t0.text (r ++ [(g, p)]) := hr
    have e : pre ++ (itemText (items ((g0, t0) :: r)) ++ (g ++ (p.text ++ Y))) = (pre ++ g0 ++ t0.text) ++ (itemText (items r) ++ (g ++ (p.text ++ Y))) := by simp [items, itemText]
    have e2 : itemText (items ((g0, t0) :: r)) ++ (g ++ (p.text ++ Y)) = g0 ++ (t0.text ++ (itemText (items r) ++ (g ++ (p.text ++ Y)))) := by simp [items, itemText]
    have hs : skip (itemText (items ((g0, t0) :: r)) ++ (g ++ (p.text ++ Y))) = g0.length := by rw [e2, hg.1, skip_piece t0 ht]; rfl
    have hp0 := (piece_kind t0 ht).2.2
    have hfo : Follows t0 (itemText (items r) ++ (g ++ (p.text ++ Y))) := by
      have h1 := fit_follow t0 ht _ hr [] (.inl rfl)
      rw [List.append_nil, items_append, itemText_append] at h1
      have h2 := follows_append Y h1 (by
        intro hz
        have hzz := (List.append_eq_nil_iff.1 hz).2
        have hpm : p ∈ pieces := by
          have : ∀ (r : List (Bs × Tok)) (last : Bs), FitE last (r ++ [(g, p)]) → p ∈ pieces := by
            intro r
            induction r with
            | nil => intro last h; exact h.1
            | cons x r ih => obtain ⟨a, b⟩ := x; intro last h; exact ih _ h.2.2.2
          exact this r _ hr
        have hpp := (piece_kind p hpm).2.2
        have := congrArg List.length hzz
        simp [items, itemText] at this
        rw [this.2] at hpp
        simp at hpp)
      simpa [items, itemText] using h2
    have hfi := piece_follow t0 ht _ hfo
    rw [hs, e] at h
    rw [e]
    have hd : ((pre ++ g0 ++ t0.text) ++ (itemText (items r) ++ (g ++ (p.text ++ Y)))).drop (pre.length + g0.length) = t0.text ++ (itemText (items r) ++ (g ++ (p.text ++ Y))) := by
      rw [List.append_assoc (pre ++ g0), List.drop_append_of_le_length (by simp)]
      simp
    have hd2 : ((pre ++ g0 ++ t0.text) ++ (itemText (items r) ++ (g ++ (p.text ++ Y)))).drop (pre.length + g0.length + t0.text.length) = itemText (items r) ++ (g ++ (p.text ++ Y)) := by
      rw [show pre.length + g0.length + t0.text.length = (pre ++ g0 ++ t0.text).length by simp; omega]
      simp
    cases m with
    | nil =>
      exfalso
      have h' : ((pre ++ g0 ++ t0.text) ++ (itemText (items r) ++ (g ++ (p.text ++ Y)))).length ≤ pre.length + g0.length := h
      simp only [List.length_append] at h'
      omega
    | cons x m1 =>
      obtain ⟨h1, h2, h3, h4, h5⟩ := h
      rw [hd, hfi] at h3
      obtain ⟨hk, htt⟩ := Prod.mk.inj h3
      rw [← htt, hd2] at h5
      have hl : (pre ++ g0 ++ t0.text).length = pre.length + g0.length + t0.text.length := by simp; omega
      rw [← hl] at h5
      obtain ⟨m', hm1, hm2⟩ := placed_items g p Y r (pre ++ g0 ++ t0.text) t0.text m1 hr h5
      refine ⟨m', ?_, ?_⟩
      · have hfx : faceOf x = faceOf t0 := (face_eq _ _).2 ⟨hk.symm, htt.symm⟩
        simp only [List.map_cons, List.cons_append, hm1, hfx]
      · have : pre.length + (itemText (items ((g0, t0) :: r))).length = (pre ++ g0 ++ t0.text).length + (itemText (items r)).length := by
          simp [items, itemText]; omega
        rw [this]; exact hm2
theorem fit_prefix (A B : List (Bs × Tok)) : ∀ last, FitE last (A ++ B) → FitE last A := by
  induction A with
  | nil => intro _ _; trivial
  | cons x r ih => obtain ⟨g, t⟩ := x; intro last h; exact ⟨h.1, h.2.1, h.2.2.1, ih _ h.2.2.2⟩
theorem fit_mid (A : List (Bs × Tok)) (g : Bs) (t : Tok) (B : List (Bs × Tok)) : ∀ last, FitE last (A ++ (g, t) :: B) → t ∈ pieces := by
  induction A with
  | nil => intro _ h; exact h.1
  | cons x r ih => obtain ⟨g', t'⟩ := x; intro last h; exact ih _ h.2.2.2
/-- SHORTEST: without one of its blanks the shortest text has other tokens. -/
theorem shortest_made (bs : List (Nat × Nat)) (i : Nat) (hi : i < (madeShort bs).length) (hb : gt (madeShort bs) i = 32) (h0 : (Mist.read ((madeShort bs).take i ++ (madeShort bs).drop (i + 1))).2.2 = 0) :
    alikeB (madeToks bs) (Mist.read ((madeShort bs).take i ++ (madeShort bs).drop (i + 1))).1 = false := by
  have hF := made_fit bs
  obtain ⟨A, g, t, B, e1, e2, e3⟩ := blank_at _ _ i hF hi hb
  rcases List.eq_nil_or_concat A with rfl | ⟨A', ⟨g', p⟩, rfl⟩
  · exact absurd e2 (by simp [lastT, needB_nil])
  rw [List.concat_eq_append] at e1 e2 e3
  rw [lastT_snoc] at e2
  have hA : FitE [] (A' ++ [(g', p)]) := fit_prefix _ _ _ (by rw [← e1]; exact hF)
  have hp : p ∈ pieces := fit_mid A' g' p [] _ hA
  have ht : t ∈ pieces := fit_mid (A' ++ [(g', p)]) g t B _ (by rw [← e1]; exact hF)
  have htG := tG_fit _ _ hA
  rw [tG_append] at htG
  obtain ⟨sp, hsp⟩ : ∃ sp, sp = spaces (gapN (lastT [] A') p.text) := ⟨_, rfl⟩
  have htail : tG (lastT [] A') [(g', p)] = [(sp, p)] := by rw [hsp]; rfl
  rw [htail] at htG
  have hgn : gapN p.text t.text = 1 := by unfold gapN; rw [if_pos e2]
  have htx : madeShort bs = (itemText (items (tG [] A')) ++ (sp ++ p.text)) ++ (32 :: (t.text ++ itemText (items (tG t.text B)))) := by
    unfold madeShort
    rw [e1, tG_append, lastT_snoc, tG_append, htail]
    simp [items_append, itemText_append, items, itemText, tG, hgn, spaces]
  have hil : i = (itemText (items (tG [] A')) ++ (sp ++ p.text)).length := by
    rw [e3, tG_append, htail]
    simp [items_append, itemText_append, items, itemText]
  have hcut : (madeShort bs).take i ++ (madeShort bs).drop (i + 1) = itemText (items (tG [] A')) ++ (sp ++ (p.text ++ (t.text ++ itemText (items (tG t.text B))))) := by
    rw [htx, hil, List.take_left, ← List.drop_drop, List.drop_left]
    simp
  rw [hcut] at h0 ⊢
  have hpl := read_placed _ h0
  generalize (Mist.read (itemText (items (tG [] A')) ++ (sp ++ (p.text ++ (t.text ++ itemText (items (tG t.text B))))))).1 = m at hpl ⊢
  obtain ⟨m', hm1, hm2⟩ := placed_items sp p (t.text ++ itemText (items (tG t.text B))) (tG [] A') [] [] m htG (by simpa using hpl)
  have hspg : GapT sp := by rw [hsp]; exact gapT_spaces _
  have hp0 := (piece_kind p hp).2.2
  have ht0 := (piece_kind t ht).2.2
  rw [hspg.1, skip_piece p hp, List.nil_append, List.length_nil, Nat.zero_add, Nat.add_zero] at hm2
  have hd : (itemText (items (tG [] A')) ++ (sp ++ (p.text ++ (t.text ++ itemText (items (tG t.text B)))))).drop ((itemText (items (tG [] A'))).length + sp.length) = p.text ++ (t.text ++ itemText (items (tG t.text B))) := by
    rw [← List.append_assoc, show (itemText (items (tG [] A'))).length + sp.length = (itemText (items (tG [] A')) ++ sp).length by simp, List.drop_left]
  cases m' with
  | nil =>
    exfalso
    have h' : (itemText (items (tG [] A')) ++ (sp ++ (p.text ++ (t.text ++ itemText (items (tG t.text B)))))).length ≤ (itemText (items (tG [] A'))).length + sp.length := hm2
    simp only [List.length_append] at h'
    omega
  | cons x r =>
    obtain ⟨_, _, h3, _, _⟩ := hm2
    rw [hd] at h3
    have hgl : glue p.text t.text = true := by rw [← needB_of _ _ hp0]; exact e2
    rw [glue_after p hp t ht] at hgl
    obtain ⟨c, r', hc⟩ : ∃ c r', t.text = c :: r' := by
      match t.text, ht0 with
      | c :: r', _ => exact ⟨c, r', rfl⟩
    have hw := piece_wrong p hp c (r' ++ itemText (items (tG t.text B))) (by rw [hc] at hgl; simpa [gt] using hgl)
    have hx : x.text ≠ p.text := by
      intro e
      apply hw
      generalize itemText (items (tG t.text B)) = R at h3 ⊢
      rw [hc] at h3
      have h3' : first (p.text ++ c :: (r' ++ R)) = (x.kind, x.text) := h3
      rw [h3', e]
    cases ha : alikeB (madeToks bs) m with
    | false => rfl
    | true =>
      exfalso
      unfold alikeB at ha
      rw [decide_eq_true_eq, ← mG_tks, items_faces, hm1, e1, tG_toks] at ha
      rw [List.map_append, List.map_append, List.append_assoc] at ha
      have := List.append_cancel_left ha
      simp only [List.map_cons, List.map_nil, List.cons_append, List.nil_append] at this
      exact hx ((face_eq _ _).1 (List.cons.inj this).1.symm).2
set_option maxRecDepth 100000 in
theorem pair_cases : ∀ p ∈ pieces, ∀ q ∈ pieces, (glue p.text q.text = false ∧ (Mist.read (p.text ++ q.text)).2.2 = 0 ∧ (Mist.read (p.text ++ q.text)).1.length = 2 ∧ (tg (Mist.read (p.text ++ q.text)).1 0).text = p.text ∧ (tg (Mist.read (p.text ++ q.text)).1 1).text = q.text) ∨
    (glue p.text q.text = true ∧ (Mist.read (p.text ++ q.text)).2.2 ≠ 0) ∨ (glue p.text q.text = true ∧ (Mist.read (p.text ++ q.text)).2.2 = 0 ∧ (Mist.read (p.text ++ q.text)).1.length ≠ 2) ∨
    (glue p.text q.text = true ∧ (Mist.read (p.text ++ q.text)).2.2 = 0 ∧ (Mist.read (p.text ++ q.text)).1.length = 2 ∧ (tg (Mist.read (p.text ++ q.text)).1 0).text ≠ p.text) := by decide +kernel
theorem items_pieces (l : List (Bs × Tok)) : ∀ (last : Bs) (a : Nat), FitE last l → ∀ t ∈ itemToks a (items l), ∃ p ∈ pieces, t.text = p.text := by
  induction l with
  | nil => intro _ _ _ t ht; cases ht
  | cons x r ih =>
    obtain ⟨g, q⟩ := x
    intro last a h t ht
    rcases List.mem_cons.1 ht with rfl | ht
    · exact ⟨q, h.1, rfl⟩
    · exact ih _ _ h.2.2.2 t ht
theorem made_pieces (bs : List (Nat × Nat)) (k : Nat) (hk : k < (madeToks bs).length) : ∃ p ∈ pieces, (tg (madeToks bs) k).text = p.text := by
  have h := items_pieces (mG none bs) [] 0 (made_fit bs)
  rw [mG_tks] at h
  exact h _ (tg_mem _ k hk)
theorem piece_glued (p q : Tok) (hp : p ∈ pieces) (hq : q ∈ pieces) : gluedOf p.text q.text = (glue p.text q.text, 0) := by
  have h1 := piece_kind p hp
  have h2 := piece_kind q hq
  exact gluedOf_ok _ _ (by rw [h1.1]; exact h1.2.1) (by rw [h2.1]; exact h2.2.1)
end Mist
