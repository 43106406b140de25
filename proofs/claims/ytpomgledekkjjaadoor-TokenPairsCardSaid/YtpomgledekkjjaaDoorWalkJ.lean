/-
  WALKS, tenth part: token rows; mistref02.Equal.
-/
import Derived.Test.YtpomgledekkjjaaDoorWalkI
import Derived.Test.YtpomgledekkjjaaDoorPlain3
namespace Go.Proofs.YtpomgledekkjjaaDoor
open Go.RowKit Mist
attribute [local go_sem] ofL_extract ofL_size ofL_get ofL_bytes ofL_append
theorem rowCells_at (l : List Tok) : ∀ (k j : Nat) (u : Value), k < l.length → (tokCells (tg l k))[j]? = some u → (rowCells l)[k * 3 + j]? = some u := by
  induction l with
  | nil => intro k j u h; simp at h
  | cons t r ih =>
    intro k j u h hu
    have hj : j < 3 := by
      have := (List.getElem?_eq_some_iff.1 hu).1
      simpa [tokCells] using this
    have e : rowCells (t :: r) = tokCells t ++ rowCells r := by simp [rowCells]
    rw [e]
    cases k with
    | zero =>
      rw [List.getElem?_append_left (by simp [tokCells]; omega)]
      simpa [tg] using hu
    | succ k =>
      rw [List.getElem?_append_right (by simp [tokCells]; omega)]
      have : (k + 1) * 3 + j - (tokCells t).length = k * 3 + j := by simp [tokCells]; omega
      rw [this]
      exact ih k j u (by simpa using h) (by simpa [tg] using hu)
/-- Where the cells of tokens lie. -/
structure TokRow (w : World) (b o : Nat) (l : List Tok) : Prop where
  lt : b < w.heap.size
  kind : ∀ k, k < l.length → w.cell? ⟨b, o + k * 3, none⟩ = some (.int .u8 (tg l k).kind)
  text : ∀ k, k < l.length → w.cell? ⟨b, o + k * 3 + 1, none⟩ = some (.string (ofL (tg l k).text))
  at_ : ∀ k, k < l.length → w.cell? ⟨b, o + k * 3 + 2, none⟩ = some (.int .i64 (tg l k).at_)
theorem TokRow.below {w w' : World} {b o : Nat} {l : List Tok} (h : TokRow w b o l) (hb : Below w.heap.size w w') : TokRow w' b o l :=
  ⟨Nat.lt_of_lt_of_le h.lt hb.size, fun k hk => (hb.cell (p := ⟨b, _, none⟩) h.lt).trans (h.kind k hk), fun k hk => (hb.cell (p := ⟨b, _, none⟩) h.lt).trans (h.text k hk), fun k hk => (hb.cell (p := ⟨b, _, none⟩) h.lt).trans (h.at_ k hk)⟩
theorem Toks.row {w : World} {v : Value} {l : List Tok} (h : Toks w v l) (h0 : 0 < l.length) : ∃ b o c, v = .slice (some ⟨b, o, none⟩) l.length c ∧ l.length ≤ c ∧ TokRow w b o l := by
  obtain ⟨A, c, rfl, hc, hr⟩ := h
  obtain ⟨ad, rfl, hlt, hcell⟩ := hr.2 h0
  have hz := hcell 0 _ (rowCells_at l 0 0 _ h0 rfl)
  obtain ⟨b, o, sp⟩ := ad
  have hsp : sp = none := by
    cases sp with
    | none => rfl
    | some x =>
      exfalso
      simp only [Addr.add, if_pos] at hz
      unfold World.cell? at hz
      simp only [Option.isSome_some, if_true] at hz
      split at hz <;> simp at hz
  subst hsp
  have hadd : ∀ n, (⟨b, o, none⟩ : Addr).add n = ⟨b, o + n, none⟩ := by
    intro n
    unfold Addr.add
    split
    · rename_i h; rw [h]; rfl
    · rfl
  refine ⟨b, o, c, rfl, hc, hlt, fun k hk => ?_, fun k hk => ?_, fun k hk => ?_⟩
  · have := hcell _ _ (rowCells_at l k 0 _ hk rfl); rw [hadd] at this; exact this
  · have := hcell _ _ (rowCells_at l k 1 _ hk rfl); rw [hadd] at this; exact this
  · have := hcell _ _ (rowCells_at l k 2 _ hk rfl); rw [hadd] at this; exact this
theorem Toks.rowA {w : World} {A : Option Addr} {n c : Nat} {l : List Tok} (h : Toks w (.slice A n c) l) (h0 : 0 < l.length) : ∃ b o, A = some ⟨b, o, none⟩ ∧ TokRow w b o l := by
  obtain ⟨b, o, c', hv, _, hr⟩ := h.row h0
  injection hv with h1 h2 h3
  exact ⟨b, o, h1, hr⟩
theorem Toks.empty {w : World} {v : Value} {l : List Tok} (h : Toks w v l) (h0 : ¬ 0 < l.length) : ∃ A c, v = .slice A 0 c := by
  obtain ⟨A, c, rfl, _⟩ := h
  exact ⟨A, c, by rw [show l.length = 0 by omega]⟩
theorem Toks.below {w w' : World} {v : Value} {l : List Tok} (h : Toks w v l) (hb : Below w.heap.size w w') : Toks w' v l := by
  obtain ⟨A, c, rfl, hc, hr⟩ := h
  exact ⟨A, c, rfl, hc, (hr.below hb).more hb.size⟩
end Go.Proofs.YtpomgledekkjjaaDoor
