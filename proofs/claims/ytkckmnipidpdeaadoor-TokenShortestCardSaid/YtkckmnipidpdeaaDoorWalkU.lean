/-
  WALKS: mistref02.Same, token.faces, slices.Equal at token.face, token.Same.
-/
import Derived.Test.YtkckmnipidpdeaaDoorWalkT
import Derived.Test.YtkckmnipidpdeaaDoorWalkI
namespace Go.Proofs.YtkckmnipidpdeaaDoor
open Go.RowKit Mist
attribute [local go_sem] ofL_extract ofL_size ofL_get ofL_bytes ofL_append
def SamePost (a b : Bs) (w : World) (e : Ending) (w' : World) : Prop := e = .returned (.tuple #[.bool (sameOf a b).1, .int .i64 (sameOf a b).2]) ∧ Below w.heap.size w w'
theorem samePost_of {a b : Bs} {w w' : World} {x p : Bool} {y : Int} {q : Nat} (h : sameOf a b = (p, q)) (hx : x = p) (hy : y = q) (hb : Below w.heap.size w w') : SamePost a b w (.returned (.tuple #[.bool x, .int .i64 y])) w' := by
  subst hx; subst hy; exact ⟨by rw [h], hb⟩
theorem read_short (l : Bs) : (Mist.read l).1.length ≤ 800 := by
  have go : ∀ (f : Nat) (l : Bs) (a : Nat) (acc : List Tok), acc.length ≤ 800 → (readFrom f l a acc).1.length ≤ 800 := by
    intro f
    induction f with
    | zero => intro l a acc h; exact h
    | succ f ih =>
      intro l a acc h
      rw [readFrom]
      split
      · exact h
      · split
        · simp
        · split
          · simp
          · exact ih _ _ _ (by simp; omega)
  unfold Mist.read
  split
  · simp
  · exact go _ _ _ _ (by simp)
set_option maxRecDepth 100000 in
set_option maxHeartbeats 2000000 in
theorem rsame_any (a b : Bs) (w : World) (ha : a.length ≤ 100000000) (hb : b.length ≤ 100000000) :
    Calls Tryd.prog 36 #[.string (ofL a), .string (ofL b)] w (SamePost a b w) := by
  by_cases h1 : (Mist.read a).2.2 = 0
  case neg =>
    have h1' : (((Mist.read a).2.2 : Int) != 0) = true := by simp; omega
    have HX := Lib.hid (sameOf_left a b h1); clear h1
    go_enter Tryd.func36, Tryd.ntmps36
    go_wp2_with (go_at_call 16; refine (rread_any a _ ha).mono ?_; rintro e w1 ⟨v1, rfl, ht1, hb1⟩)
    go_ret2
    exact samePost_of HX.out rfl rfl hb1
  have h1' : (((Mist.read a).2.2 : Int) != 0) = false := by simp; omega
  by_cases h2 : (Mist.read b).2.2 = 0
  case neg =>
    have h2' : (((Mist.read b).2.2 : Int) != 0) = true := by simp; omega
    have HX := Lib.hid (sameOf_right a b h1 h2); clear h1 h2
    go_enter Tryd.func36, Tryd.ntmps36
    go_wp2_with fail
    refine (rread_any a _ ha).mono ?_
    rintro e w1 ⟨v1, rfl, ht1, hb1⟩
    have HB1 := Lib.hid hb1; clear hb1
    have HT1 := Lib.hid ht1; clear ht1
    go_wp2_with fail
    refine (rread_any b _ hb).mono ?_
    rintro e w2 ⟨v2, rfl, ht2, hb2⟩
    have HT2 := Lib.hid ht2; clear ht2
    have HB2 := Lib.hid (HB1.out.trans (hb2.mono HB1.out.size)); clear hb2
    go_wp2_with fail
    go_ret2
    exact samePost_of HX.out rfl rfl HB2.out
  have h2' : (((Mist.read b).2.2 : Int) != 0) = false := by simp; omega
  have HX := Lib.hid (sameOf_both a b h1 h2); clear h1 h2
  go_enter Tryd.func36, Tryd.ntmps36
  go_wp2_with fail
  refine (rread_any a _ ha).mono ?_
  rintro e w1 ⟨v1, rfl, ht1, hb1⟩
  have HB1 := Lib.hid hb1; clear hb1
  have HT1 := Lib.hid ht1; clear ht1
  go_wp2_with fail
  refine (rread_any b _ hb).mono ?_
  rintro e w2 ⟨v2, rfl, ht2, hb2⟩
  have HT2 := Lib.hid ht2; clear ht2
  have HT1' := Lib.hid (HT1.out.below hb2)
  have HB2 := Lib.hid (HB1.out.trans (hb2.mono HB1.out.size)); clear hb2
  go_wp2_with fail
  refine (ralike_any v1 v2 _ _ _ HT1'.out HT2.out (by have := read_short a; omega) (by have := read_short b; omega)).mono ?_
  rintro e w3 ⟨rfl, hb3⟩
  have HB3 := Lib.hid (HB2.out.trans (hb3.mono HB2.out.size)); clear hb3
  go_wp2_with fail
  go_ret2
  exact samePost_of HX.out rfl rfl HB3.out
/- THE FACES OF TOKENS. -/
def faceCells (t : Tok) : List Value := [.int .u8 t.kind, .string (ofL t.text)]
def faceRow (l : List Tok) : List Value := l.flatMap faceCells
theorem faceRow_append (l m : List Tok) : faceRow (l ++ m) = faceRow l ++ faceRow m := by simp [faceRow]
def Faces (w : World) (v : Value) (l : List Tok) : Prop := ∃ A c, v = .slice A l.length c ∧ l.length ≤ c ∧ Reads w w.heap.size 2 A l.length (faceRow l)
theorem Faces.of_own {w : World} {base : Nat} {v : Value} {l : List Tok} (h : w.ownsRow base 83 2 v l.length (faceRow l)) : Faces w v l := by
  rcases h.2 with ⟨hv, h0⟩ | ⟨g, cap, cur, hv, _, _, hc, _⟩
  · have : l = [] := List.eq_nil_of_length_eq_zero h0
    subst this
    exact ⟨none, 0, hv, Nat.le_refl _, Reads.none_⟩
  · exact ⟨_, cap, hv, hc, Reads.of_own (hv ▸ h)⟩
theorem Faces.none_ (w : World) : Faces w (.slice none 0 0) [] := ⟨none, 0, rfl, Nat.le_refl _, Reads.none_⟩
theorem Faces.below {w w' : World} {v : Value} {l : List Tok} (h : Faces w v l) (hb : Below w.heap.size w w') : Faces w' v l := by
  obtain ⟨A, c, rfl, hc, hr⟩ := h
  exact ⟨A, c, rfl, hc, (hr.below hb).more hb.size⟩
theorem faceRow_at (l : List Tok) : ∀ (k j : Nat) (u : Value), k < l.length → (faceCells (tg l k))[j]? = some u → (faceRow l)[k * 2 + j]? = some u := by
  induction l with
  | nil => intro k j u h; simp at h
  | cons t r ih =>
    intro k j u h hu
    have hj : j < 2 := by
      have := (List.getElem?_eq_some_iff.1 hu).1
      simpa [faceCells] using this
    have e : faceRow (t :: r) = faceCells t ++ faceRow r := by simp [faceRow]
    rw [e]
    cases k with
    | zero =>
      rw [List.getElem?_append_left (by simp [faceCells]; omega)]
      simpa [tg] using hu
    | succ k =>
      rw [List.getElem?_append_right (by simp [faceCells]; omega)]
      have : (k + 1) * 2 + j - (faceCells t).length = k * 2 + j := by simp [faceCells]; omega
      rw [this]
      exact ih k j u (by simpa using h) (by simpa [tg] using hu)
structure FaceRow (w : World) (b o : Nat) (l : List Tok) : Prop where
  lt : b < w.heap.size
  kind : ∀ k, k < l.length → w.cell? ⟨b, o + k * 2, none⟩ = some (.int .u8 (tg l k).kind)
  text : ∀ k, k < l.length → w.cell? ⟨b, o + k * 2 + 1, none⟩ = some (.string (ofL (tg l k).text))
theorem Faces.rowA {w : World} {A : Option Addr} {n c : Nat} {l : List Tok} (h : Faces w (.slice A n c) l) (h0 : 0 < l.length) : ∃ b o, A = some ⟨b, o, none⟩ ∧ FaceRow w b o l := by
  obtain ⟨A', c', hv, hc, hr⟩ := h
  injection hv with hA hn hcc
  subst hA
  obtain ⟨ad, rfl, hlt, hcell⟩ := hr.2 h0
  have hz := hcell 0 _ (faceRow_at l 0 0 _ h0 rfl)
  obtain ⟨b, o, sp⟩ := ad
  have hsp : sp = none := by
    cases sp with
    | none => rfl
    | some x =>
      exfalso
      simp only [Addr.add, if_pos] at hz
      unfold World.cell? at hz
      simp only [Option.isSome_some, if_true] at hz
      split at hz <;> simp at hz
  subst hsp
  have hadd : ∀ n, (⟨b, o, none⟩ : Addr).add n = ⟨b, o + n, none⟩ := by
    intro n
    unfold Addr.add
    split
    · rename_i h; rw [h]; rfl
    · rfl
  refine ⟨b, o, rfl, hlt, fun k hk => ?_, fun k hk => ?_⟩
  · have := hcell _ _ (faceRow_at l k 0 _ hk rfl); rw [hadd] at this; exact this
  · have := hcell _ _ (faceRow_at l k 1 _ hk rfl); rw [hadd] at this; exact this
theorem face_info : (Tryd.prog.info? 83).map (fun i => (i.zero, i.size, i.bytes)) = some (some (.agg #[.int .u8 0, .string ByteArray.empty]), 2, 24) := by kernel_rfl
theorem faceCells_one (t : Tok) : ∀ u ∈ faceCells t, u.oneCell' = true := by
  intro u hu
  simp [faceCells] at hu
  rcases hu with rfl | rfl <;> rfl
def FacesPost (l : Bs) (w : World) (e : Ending) (w' : World) : Prop := ∃ v, e = .returned (.tuple #[v, .int .i64 (Mist.read l).2.2]) ∧ Faces w' v (Mist.read l).1 ∧ Below w.heap.size w w'
set_option maxRecDepth 100000 in
set_option maxHeartbeats 2000000 in
theorem faces_any (l : Bs) (w : World) (hE : Env w) (hl : l.length ≤ 100000000) :
    Calls Tryd.prog 59 #[.string (ofL l)] w (FacesPost l w) := by
  have HE := Lib.hid hE; clear hE
  obtain ⟨i0, hi0, hz0, hz1, hz2⟩ := info_parts face_info
  go_enter Tryd.func59, Tryd.ntmps59
  go_wp2_with fail
  refine (read_any l _ HE.out hl).mono ?_
  rintro e w1 ⟨v1, rfl, ht1, hb1⟩
  have hs8 := read_short l
  obtain ⟨A, c, rfl⟩ : ∃ A c, v1 = .slice A (Mist.read l).1.length c := by obtain ⟨A, c, h, _⟩ := ht1; exact ⟨A, c, h⟩
  have HT := Lib.hid ht1; clear ht1
  have HB1 := Lib.hid hb1; clear hb1
  obtain ⟨T, hT⟩ : ∃ T, T = (Mist.read l).1 := ⟨_, rfl⟩
  rw [← hT] at HT hs8 ⊢
  have HTE := Lib.hid hT; clear hT
  go_wp2
  go_loopw [2, 16] (fun v i wr => ∃ n : Nat, n ≤ T.length ∧ i = .int .i64 n ∧ wr.ownsRow w1.heap.size 83 2 v n (faceRow (T.take n)) ∧ Below w1.heap.size w1 wr) (fun _ i _ => T.length - (intOf i).toNat)
  case atStart => exact ⟨0, Nat.zero_le _, rfl, World.ownsRow_nil _ _ _ _, Below.refl _ _⟩
  case round =>
    obtain ⟨n, hn, rfl, hown, hbq⟩ := hrel
    obtain ⟨A2, c2, rfl⟩ := own_form hown
    have HBQ := Lib.hid hbq; clear hbq
    have HO := Lib.hid hown; clear hown
    by_cases hlt : n < T.length
    · obtain ⟨b, o, rfl, hr⟩ := HT.out.rowA (by omega)
      have hk := (hr.below HBQ.out).kind n hlt
      have ht := (hr.below HBQ.out).text n hlt
      have ha := (hr.below HBQ.out).at_ n hlt
      have hbs := (hr.below HBQ.out).lt
      have hbw := HBQ.out.size
      clear hr
      have HN := Lib.hid (show ∀ j u, (faceCells (tg T n))[j]? = some u → ((wr.alloc (.cells #[.int .u8 (tg T n).kind, .string (ofL (tg T n).text), .int .i64 (tg T n).at_] 38)).alloc (.cells (faceCells (tg T n)).toArray 83)).cell? ((⟨wr.heap.size + 1, 0, none⟩ : Addr).add j) = some u by
          have h := cells_new (wr.alloc (.cells #[.int .u8 (tg T n).kind, .string (ofL (tg T n).text), .int .i64 (tg T n).at_] 38)) (faceCells (tg T n)) 83
          rw [World.size_alloc] at h; exact h)
      go_wp2_with (at_builtin
                   refine wpList_append_own _ rfl (.tmp 20) (.tmp 26) 78 rfl w1.heap.size 83 i0 _ 2 24 Tryd.underlying78 hi0 hz0 hz1 hz2 rfl (by decide) _ n (faceRow (T.take n)) rfl
                     ((HO.out.alloc _).alloc _) ⟨wr.heap.size + 1, 0, none⟩ 1 1 (faceCells (tg T n)) rfl rfl HN.out (faceCells_one _) (by simp only [maxLen]; omega) (by omega) (by simp; omega) ?_
                   intro v2 w2 hown2 hg2 _)
      have hB2 : Below w1.heap.size w1 w2 := ((HBQ.out.alloc hbw _).alloc (by simp; omega) _).grown hg2 (by simp; omega) (fun k hk => (HO.out.lt k hk).1)
      refine ⟨⟨n + 1, by omega, by go_num, ?_, hB2⟩, by simp [intOf]; omega⟩
      rw [tg_take T n hlt, faceRow_append]; simpa [faceRow] using hown2
    · go_wp2
      go_ret2
      have ho := HO.out
      obtain rfl : n = T.length := by omega
      rw [List.take_length] at ho
      exact ⟨_, rfl, by rw [← HTE.out]; exact Faces.of_own ho, HB1.out.trans (HBQ.out.mono HB1.out.size)⟩
/-- slices.Equal at the faces of tokens. -/
theorem faceEqual_any (v1 v2 : Value) (l m : List Tok) (w : World) (h1 : Faces w v1 l) (h2 : Faces w v2 m) (hl : l.length ≤ 100000000) (_hm : m.length ≤ 100000000) :
    Calls Tryd.prog 60 #[v1, v2] w (AlikePost l m w) := by
  obtain ⟨A1, c1, rfl⟩ : ∃ A c, v1 = .slice A l.length c := by obtain ⟨A, c, h, _⟩ := h1; exact ⟨A, c, h⟩
  obtain ⟨A2, c2, rfl⟩ : ∃ A c, v2 = .slice A m.length c := by obtain ⟨A, c, h, _⟩ := h2; exact ⟨A, c, h⟩
  have H1 := Lib.hid h1; clear h1
  have H2 := Lib.hid h2; clear h2
  by_cases hlm : l.length = m.length
  case neg =>
    have hlm' : ((l.length : Int) != (m.length : Int)) = true := by simp; omega
    have HX := Lib.hid (alike_len l m hlm); clear hlm
    go_enter Tryd.func60, Tryd.ntmps60
    go_wp2
    go_ret
    exact alikePost_of HX.out (Below.refl _ _)
  have HL := Lib.hid hlm
  rw [← hlm]
  clear hlm
  go_enter Tryd.func60, Tryd.ntmps60
  go_wp2
  go_loopw [13] (fun i wr => ∃ n q : Nat, n ≤ l.length ∧ i = .int .i64 n ∧ wr = w.drewN q ∧ ∀ k, k < n → faceOf (tg l k) = faceOf (tg m k)) (fun i _ => l.length - (intOf i).toNat)
  case atStart => exact ⟨0, 0, Nat.zero_le _, rfl, rfl, by intro k h; omega⟩
  case round =>
    obtain ⟨n, q, hn, rfl, rfl, hall⟩ := hrel
    have HA := Lib.hid hall; clear hall
    by_cases hlt : n < l.length
    · have hltm : n < m.length := by have := HL.out; omega
      obtain ⟨b1, o1, rfl, r1⟩ := H1.out.rowA (by omega)
      obtain ⟨b2, o2, rfl, r2⟩ := H2.out.rowA (by omega)
      have k1 := r1.kind n hlt
      have t1 := r1.text n hlt
      have k2 := r2.kind n hltm
      have t2 := r2.text n hltm
      clear r1 r2
      by_cases hk : (tg l n).kind = (tg m n).kind
      · by_cases ht : (tg l n).text = (tg m n).text
        · have HN := Lib.hid ((face_eq _ _).2 ⟨hk, ht⟩)
          rw [hk] at k1
          rw [ht] at t1
          clear hk ht
          go_wp2
          go_quiet (fail)
          go_wp2
          refine ⟨⟨n + 1, _, by omega, by go_num, rfl, ?_⟩, by simp [intOf]; omega⟩
          intro k hk
          rcases Nat.lt_or_ge k n with h | h
          · exact HA.out k h
          · rw [show k = n by omega]; exact HN.out
        · have HN := Lib.hid (alike_at l m n hlt hltm (fun e => ht ((face_eq _ _).1 e).2))
          rw [hk] at k1
          have ht' : ((tg l n).text == (tg m n).text) = false := by simpa using ht
          clear hk ht
          go_wp2
          go_quiet (fail)
          go_wp2
          go_ret
          exact alikePost_of HN.out (bdrewN (bdrewN (Below.refl _ _) _) _)
      · have HN := Lib.hid (alike_at l m n hlt hltm (fun e => hk ((face_eq _ _).1 e).1))
        have hk' : (((tg l n).kind : Int) != ((tg m n).kind : Int)) = true := by simp; omega
        have hk2 : (((tg l n).kind : Int) == ((tg m n).kind : Int)) = false := by simp; omega
        clear hk
        go_wp2
        go_quiet (fail)
        go_wp2
        go_ret
        exact alikePost_of HN.out (bdrewN (bdrewN (Below.refl _ _) _) _)
    · go_wp2
      go_ret
      exact alikePost_of (alike_all l m HL.out (fun k hk => HA.out k (by omega))) (bdrewN (Below.refl _ _) _)
set_option maxRecDepth 100000 in
set_option maxHeartbeats 2000000 in
theorem same_any (a b : Bs) (w : World) (hE : Env w) (ha : a.length ≤ 100000000) (hb : b.length ≤ 100000000) :
    Calls Tryd.prog 35 #[.string (ofL a), .string (ofL b)] w (SamePost a b w) := by
  have HE := Lib.hid hE; clear hE
  by_cases h1 : (Mist.read a).2.2 = 0
  case neg =>
    have h1' : (((Mist.read a).2.2 : Int) != 0) = true := by simp; omega
    have HX := Lib.hid (sameOf_left a b h1); clear h1
    go_enter Tryd.func35, Tryd.ntmps35
    go_wp2_with (go_at_call 59; refine (faces_any a _ HE.out ha).mono ?_; rintro e w1 ⟨v1, rfl, ht1, hb1⟩)
    go_ret2
    exact samePost_of HX.out rfl rfl hb1
  have h1' : (((Mist.read a).2.2 : Int) != 0) = false := by simp; omega
  by_cases h2 : (Mist.read b).2.2 = 0
  case neg =>
    have h2' : (((Mist.read b).2.2 : Int) != 0) = true := by simp; omega
    have HX := Lib.hid (sameOf_right a b h1 h2); clear h1 h2
    go_enter Tryd.func35, Tryd.ntmps35
    go_wp2_with fail
    refine (faces_any a _ HE.out ha).mono ?_
    rintro e w1 ⟨v1, rfl, ht1, hb1⟩
    have HE1 := Lib.hid (HE.out.below hb1)
    have HB1 := Lib.hid hb1; clear hb1
    have HT1 := Lib.hid ht1; clear ht1
    go_wp2_with fail
    refine (faces_any b _ HE1.out hb).mono ?_
    rintro e w2 ⟨v2, rfl, ht2, hb2⟩
    have HT2 := Lib.hid ht2; clear ht2
    have HB2 := Lib.hid (HB1.out.trans (hb2.mono HB1.out.size)); clear hb2
    go_wp2_with fail
    go_ret2
    exact samePost_of HX.out rfl rfl HB2.out
  have h2' : (((Mist.read b).2.2 : Int) != 0) = false := by simp; omega
  have HX := Lib.hid (sameOf_both a b h1 h2); clear h1 h2
  go_enter Tryd.func35, Tryd.ntmps35
  go_wp2_with fail
  refine (faces_any a _ HE.out ha).mono ?_
  rintro e w1 ⟨v1, rfl, ht1, hb1⟩
  have HE1 := Lib.hid (HE.out.below hb1)
  have HB1 := Lib.hid hb1; clear hb1
  have HT1 := Lib.hid ht1; clear ht1
  go_wp2_with fail
  refine (faces_any b _ HE1.out hb).mono ?_
  rintro e w2 ⟨v2, rfl, ht2, hb2⟩
  have HT2 := Lib.hid ht2; clear ht2
  have HT1' := Lib.hid (HT1.out.below hb2)
  have HB2 := Lib.hid (HB1.out.trans (hb2.mono HB1.out.size)); clear hb2
  go_wp2_with fail
  refine (faceEqual_any v1 v2 _ _ _ HT1'.out HT2.out (by have := read_short a; omega) (by have := read_short b; omega)).mono ?_
  rintro e w3 ⟨rfl, hb3⟩
  have HB3 := Lib.hid (HB2.out.trans (hb3.mono HB2.out.size)); clear hb3
  go_wp2_with fail
  go_ret2
  exact samePost_of HX.out rfl rfl HB3.out
end Go.Proofs.YtkckmnipidpdeaaDoor
