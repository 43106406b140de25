/-
  WALKS, tenth part: token rows; mistref02.Equal.
-/
import Derived.Test.YtkckmnipidpdeaaDoorWalkI
import Derived.Test.YtkckmnipidpdeaaDoorPlain3
namespace Go.Proofs.YtkckmnipidpdeaaDoor
open Go.RowKit Mist
attribute [local go_sem] ofL_extract ofL_size ofL_get ofL_bytes ofL_append
theorem rowCells_at (l : List Tok) : ∀ (k j : Nat) (u : Value), k < l.length → (tokCells (tg l k))[j]? = some u → (rowCells l)[k * 3 + j]? = some u := by
  induction l with
  | nil => intro k j u h; simp at h
  | cons t r ih =>
    intro k j u h hu
    have hj : j < 3 := by
      have := (List.getElem?_eq_some_iff.1 hu).1
      simpa [tokCells] using this
    have e : rowCells (t :: r) = tokCells t ++ rowCells r := by simp [rowCells]
    rw [e]
    cases k with
    | zero =>
      rw [List.getElem?_append_left (by simp [tokCells]; omega)]
      simpa [tg] using hu
    | succ k =>
      rw [List.getElem?_append_right (by simp [tokCells]; omega)]
      have : (k + 1) * 3 + j - (tokCells t).length = k * 3 + j := by simp [tokCells]; omega
      rw [this]
      exact ih k j u (by simpa using h) (by simpa [tg] using hu)
/-- Where the cells of tokens lie. -/
structure TokRow (w : World) (b o : Nat) (l : List Tok) : Prop where
  lt : b < w.heap.size
  kind : ∀ k, k < l.length → w.cell? ⟨b, o + k * 3, none⟩ = some (.int .u8 (tg l k).kind)
  text : ∀ k, k < l.length → w.cell? ⟨b, o + k * 3 + 1, none⟩ = some (.string (ofL (tg l k).text))
  at_ : ∀ k, k < l.length → w.cell? ⟨b, o + k * 3 + 2, none⟩ = some (.int .i64 (tg l k).at_)
theorem TokRow.below {w w' : World} {b o : Nat} {l : List Tok} (h : TokRow w b o l) (hb : Below w.heap.size w w') : TokRow w' b o l :=
  ⟨Nat.lt_of_lt_of_le h.lt hb.size, fun k hk => (hb.cell (p := ⟨b, _, none⟩) h.lt).trans (h.kind k hk), fun k hk => (hb.cell (p := ⟨b, _, none⟩) h.lt).trans (h.text k hk), fun k hk => (hb.cell (p := ⟨b, _, none⟩) h.lt).trans (h.at_ k hk)⟩
theorem Toks.row {w : World} {v : Value} {l : List Tok} (h : Toks w v l) (h0 : 0 < l.length) : ∃ b o c, v = .slice (some ⟨b, o, none⟩) l.length c ∧ l.length ≤ c ∧ TokRow w b o l := by
  obtain ⟨A, c, rfl, hc, hr⟩ := h
  obtain ⟨ad, rfl, hlt, hcell⟩ := hr.2 h0
  have hz := hcell 0 _ (rowCells_at l 0 0 _ h0 rfl)
  obtain ⟨b, o, sp⟩ := ad
  have hsp : sp = none := by
    cases sp with
    | none => rfl
    | some x =>
      exfalso
      simp only [Addr.add, if_pos] at hz
      unfold World.cell? at hz
      simp only [Option.isSome_some, if_true] at hz
      split at hz <;> simp at hz
  subst hsp
  have hadd : ∀ n, (⟨b, o, none⟩ : Addr).add n = ⟨b, o + n, none⟩ := by
    intro n
    unfold Addr.add
    split
    · rename_i h; rw [h]; rfl
    · rfl
  refine ⟨b, o, c, rfl, hc, hlt, fun k hk => ?_, fun k hk => ?_, fun k hk => ?_⟩
  · have := hcell _ _ (rowCells_at l k 0 _ hk rfl); rw [hadd] at this; exact this
  · have := hcell _ _ (rowCells_at l k 1 _ hk rfl); rw [hadd] at this; exact this
  · have := hcell _ _ (rowCells_at l k 2 _ hk rfl); rw [hadd] at this; exact this
theorem Toks.rowA {w : World} {A : Option Addr} {n c : Nat} {l : List Tok} (h : Toks w (.slice A n c) l) (h0 : 0 < l.length) : ∃ b o, A = some ⟨b, o, none⟩ ∧ TokRow w b o l := by
  obtain ⟨b, o, c', hv, _, hr⟩ := h.row h0
  injection hv with h1 h2 h3
  exact ⟨b, o, h1, hr⟩
theorem Toks.empty {w : World} {v : Value} {l : List Tok} (h : Toks w v l) (h0 : ¬ 0 < l.length) : ∃ A c, v = .slice A 0 c := by
  obtain ⟨A, c, rfl, _⟩ := h
  exact ⟨A, c, by rw [show l.length = 0 by omega]⟩
theorem Toks.below {w w' : World} {v : Value} {l : List Tok} (h : Toks w v l) (hb : Below w.heap.size w w') : Toks w' v l := by
  obtain ⟨A, c, rfl, hc, hr⟩ := h
  exact ⟨A, c, rfl, hc, (hr.below hb).more hb.size⟩
set_option maxRecDepth 100000 in
set_option maxHeartbeats 1000000 in
theorem equal_any (v1 v2 : Value) (l : List Tok) (w : World) (h1 : Toks w v1 l) (h2 : Toks w v2 l) (hl : l.length ≤ 100000000) :
    Calls Tryd.prog 17 #[v1, v2] w fun e w' => e = .returned (.bool true) ∧ Below w.heap.size w w' := by
  by_cases h0 : 0 < l.length
  · obtain ⟨b1, o1, c1, rfl, _, r1⟩ := h1.row h0
    obtain ⟨b2, o2, c2, rfl, _, r2⟩ := h2.row h0
    have R1 := Lib.hid r1; clear r1
    have R2 := Lib.hid r2; clear r2
    have H1 := Lib.hid h1; clear h1
    have H2 := Lib.hid h2; clear h2
    go_enter Tryd.func17, Tryd.ntmps17
    go_wp2
    go_loopw [5] (fun i wr => ∃ n q : Nat, n ≤ l.length ∧ i = .int .i64 n ∧ wr = w.drewN q) (fun i _ => l.length - (intOf i).toNat)
    case atStart => exact ⟨0, 0, Nat.zero_le _, rfl, rfl⟩
    case round =>
      obtain ⟨n, q, hn, rfl, rfl⟩ := hrel
      by_cases hlt : n < l.length
      · have k1 := R1.out.kind n hlt
        have t1 := R1.out.text n hlt
        have a1 := R1.out.at_ n hlt
        have k2 := R2.out.kind n hlt
        have t2 := R2.out.text n hlt
        have a2 := R2.out.at_ n hlt
        go_wp2
        go_quiet (fail)
        go_wp2
        exact ⟨⟨n + 1, _, by omega, by go_num, rfl⟩, by simp [intOf]; omega⟩
      · go_wp2
        go_ret
        exact ⟨rfl, bdrewN (Below.refl _ _) _⟩
  · obtain ⟨A1, c1, rfl⟩ := h1.empty h0
    obtain ⟨A2, c2, rfl⟩ := h2.empty h0
    have H1 := Lib.hid h1; clear h1
    have H2 := Lib.hid h2; clear h2
    go_enter Tryd.func17, Tryd.ntmps17
    go_wp2
    refine wp_loop_once ?_
    go_wp2
    go_ret
    exact ⟨rfl, Below.refl _ _⟩
end Go.Proofs.YtkckmnipidpdeaaDoor
