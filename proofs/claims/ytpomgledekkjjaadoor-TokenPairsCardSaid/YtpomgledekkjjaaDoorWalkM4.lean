/-
  WORDS: slices of pairs of bytes.
-/
import Derived.Test.YtpomgledekkjjaaDoorWalkM3
namespace Go.Proofs.YtpomgledekkjjaaDoor
open Go.RowKit Mist
def pairCells (p : Nat × Nat) : List Value := [.int .u8 p.1, .int .u8 p.2]
def pairRow (l : List (Nat × Nat)) : List Value := l.flatMap pairCells
def pg (l : List (Nat × Nat)) (k : Nat) : Nat × Nat := l.getD k (0, 0)
theorem pg_take (l : List (Nat × Nat)) (n : Nat) (h : n < l.length) : l.take (n + 1) = l.take n ++ [pg l n] := by
  have e : pg l n = l[n] := by simp [pg, h]
  rw [e]; exact List.take_succ_eq_append_getElem h
theorem pg_mem (l : List (Nat × Nat)) (n : Nat) (h : n < l.length) : pg l n ∈ l := by
  have e : pg l n = l[n] := by simp [pg, h]
  rw [e]; exact List.getElem_mem h
theorem pairRow_len (l : List (Nat × Nat)) : (pairRow l).length = l.length * 2 := by
  induction l with
  | nil => rfl
  | cons t r ih => simp [pairRow, pairCells] at ih ⊢; omega
def Pairs (w : World) (v : Value) (l : List (Nat × Nat)) : Prop := ∃ A c, v = .slice A l.length c ∧ l.length ≤ c ∧ Reads w w.heap.size 2 A l.length (pairRow l)
theorem Pairs.none_ (w : World) : Pairs w (.slice none 0 0) [] := ⟨none, 0, rfl, Nat.le_refl _, Reads.none_⟩
theorem Pairs.below {w w' : World} {v : Value} {l : List (Nat × Nat)} (h : Pairs w v l) (hb : Below w.heap.size w w') : Pairs w' v l := by
  obtain ⟨A, c, rfl, hc, hr⟩ := h
  exact ⟨A, c, rfl, hc, (hr.below hb).more hb.size⟩
theorem pairRow_at (l : List (Nat × Nat)) : ∀ (k j : Nat) (u : Value), k < l.length → (pairCells (pg l k))[j]? = some u → (pairRow l)[k * 2 + j]? = some u := by
  induction l with
  | nil => intro k j u h; simp at h
  | cons t r ih =>
    intro k j u h hu
    have hj : j < 2 := by
      have := (List.getElem?_eq_some_iff.1 hu).1
      simpa [pairCells] using this
    have e : pairRow (t :: r) = pairCells t ++ pairRow r := by simp [pairRow]
    rw [e]
    cases k with
    | zero =>
      rw [List.getElem?_append_left (by simp [pairCells]; omega)]
      simpa [pg] using hu
    | succ k =>
      rw [List.getElem?_append_right (by simp [pairCells]; omega)]
      have : (k + 1) * 2 + j - (pairCells t).length = k * 2 + j := by simp [pairCells]; omega
      rw [this]
      exact ih k j u (by simpa using h) (by simpa [pg] using hu)
structure PairRow (w : World) (b o : Nat) (l : List (Nat × Nat)) : Prop where
  lt : b < w.heap.size
  fst : ∀ k, k < l.length → w.cell? ⟨b, o + k * 2, none⟩ = some (.int .u8 (pg l k).1)
  snd : ∀ k, k < l.length → w.cell? ⟨b, o + k * 2 + 1, none⟩ = some (.int .u8 (pg l k).2)
theorem PairRow.below {w w' : World} {b o : Nat} {l : List (Nat × Nat)} (h : PairRow w b o l) (hb : Below w.heap.size w w') : PairRow w' b o l :=
  ⟨Nat.lt_of_lt_of_le h.lt hb.size, fun k hk => (hb.cell (p := ⟨b, _, none⟩) h.lt).trans (h.fst k hk), fun k hk => (hb.cell (p := ⟨b, _, none⟩) h.lt).trans (h.snd k hk)⟩
theorem Pairs.rowA {w : World} {A : Option Addr} {n c : Nat} {l : List (Nat × Nat)} (h : Pairs w (.slice A n c) l) (h0 : 0 < l.length) : ∃ b o, A = some ⟨b, o, none⟩ ∧ PairRow w b o l := by
  obtain ⟨A', c', hv, hc, hr⟩ := h
  injection hv with hA hn hcc
  subst hA
  obtain ⟨ad, rfl, hlt, hcell⟩ := hr.2 h0
  have hz := hcell 0 _ (pairRow_at l 0 0 _ h0 rfl)
  obtain ⟨b, o, sp⟩ := ad
  have hsp : sp = none := by
    cases sp with
    | none => rfl
    | some x =>
      exfalso
      simp only [Addr.add, if_pos] at hz
      unfold World.cell? at hz
      simp only [Option.isSome_some, if_true] at hz
      split at hz <;> simp at hz
  subst hsp
  have hadd : ∀ n, (⟨b, o, none⟩ : Addr).add n = ⟨b, o + n, none⟩ := by
    intro n
    unfold Addr.add
    split
    · rename_i h; rw [h]; rfl
    · rfl
  refine ⟨b, o, rfl, hlt, fun k hk => ?_, fun k hk => ?_⟩
  · have := hcell _ _ (pairRow_at l k 0 _ hk rfl); rw [hadd] at this; exact this
  · have := hcell _ _ (pairRow_at l k 1 _ hk rfl); rw [hadd] at this; exact this
end Go.Proofs.YtpomgledekkjjaaDoor
