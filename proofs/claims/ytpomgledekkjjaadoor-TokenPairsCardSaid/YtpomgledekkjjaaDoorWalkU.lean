/-
  WALKS: mistref02.Same, token.faces, slices.Equal at token.face, token.Same.
-/
import Derived.Test.YtpomgledekkjjaaDoorWalkT
import Derived.Test.YtpomgledekkjjaaDoorWalkI
namespace Go.Proofs.YtpomgledekkjjaaDoor
open Go.RowKit Mist
attribute [local go_sem] ofL_extract ofL_size ofL_get ofL_bytes ofL_append
def SamePost (a b : Bs) (w : World) (e : Ending) (w' : World) : Prop := e = .returned (.tuple #[.bool (sameOf a b).1, .int .i64 (sameOf a b).2]) ∧ Below w.heap.size w w'
theorem samePost_of {a b : Bs} {w w' : World} {x p : Bool} {y : Int} {q : Nat} (h : sameOf a b = (p, q)) (hx : x = p) (hy : y = q) (hb : Below w.heap.size w w') : SamePost a b w (.returned (.tuple #[.bool x, .int .i64 y])) w' := by
  subst hx; subst hy; exact ⟨by rw [h], hb⟩
theorem read_short (l : Bs) : (Mist.read l).1.length ≤ 800 := by
  have go : ∀ (f : Nat) (l : Bs) (a : Nat) (acc : List Tok), acc.length ≤ 800 → (readFrom f l a acc).1.length ≤ 800 := by
    intro f
    induction f with
    | zero => intro l a acc h; exact h
    | succ f ih =>
      intro l a acc h
      rw [readFrom]
      split
      · exact h
      · split
        · simp
        · split
          · simp
          · exact ih _ _ _ (by simp; omega)
  unfold Mist.read
  split
  · simp
  · exact go _ _ _ _ (by simp)
def faceCells (t : Tok) : List Value := [.int .u8 t.kind, .string (ofL t.text)]
def faceRow (l : List Tok) : List Value := l.flatMap faceCells
theorem faceRow_append (l m : List Tok) : faceRow (l ++ m) = faceRow l ++ faceRow m := by simp [faceRow]
def Faces (w : World) (v : Value) (l : List Tok) : Prop := ∃ A c, v = .slice A l.length c ∧ l.length ≤ c ∧ Reads w w.heap.size 2 A l.length (faceRow l)
theorem Faces.none_ (w : World) : Faces w (.slice none 0 0) [] := ⟨none, 0, rfl, Nat.le_refl _, Reads.none_⟩
theorem Faces.below {w w' : World} {v : Value} {l : List Tok} (h : Faces w v l) (hb : Below w.heap.size w w') : Faces w' v l := by
  obtain ⟨A, c, rfl, hc, hr⟩ := h
  exact ⟨A, c, rfl, hc, (hr.below hb).more hb.size⟩
theorem faceRow_at (l : List Tok) : ∀ (k j : Nat) (u : Value), k < l.length → (faceCells (tg l k))[j]? = some u → (faceRow l)[k * 2 + j]? = some u := by
  induction l with
  | nil => intro k j u h; simp at h
  | cons t r ih =>
    intro k j u h hu
    have hj : j < 2 := by
      have := (List.getElem?_eq_some_iff.1 hu).1
      simpa [faceCells] using this
    have e : faceRow (t :: r) = faceCells t ++ faceRow r := by simp [faceRow]
    rw [e]
    cases k with
    | zero =>
      rw [List.getElem?_append_left (by simp [faceCells]; omega)]
      simpa [tg] using hu
    | succ k =>
      rw [List.getElem?_append_right (by simp [faceCells]; omega)]
      have : (k + 1) * 2 + j - (faceCells t).length = k * 2 + j := by simp [faceCells]; omega
      rw [this]
      exact ih k j u (by simpa using h) (by simpa [tg] using hu)
structure FaceRow (w : World) (b o : Nat) (l : List Tok) : Prop where
  lt : b < w.heap.size
  kind : ∀ k, k < l.length → w.cell? ⟨b, o + k * 2, none⟩ = some (.int .u8 (tg l k).kind)
  text : ∀ k, k < l.length → w.cell? ⟨b, o + k * 2 + 1, none⟩ = some (.string (ofL (tg l k).text))
theorem Faces.rowA {w : World} {A : Option Addr} {n c : Nat} {l : List Tok} (h : Faces w (.slice A n c) l) (h0 : 0 < l.length) : ∃ b o, A = some ⟨b, o, none⟩ ∧ FaceRow w b o l := by
  obtain ⟨A', c', hv, hc, hr⟩ := h
  injection hv with hA hn hcc
  subst hA
  obtain ⟨ad, rfl, hlt, hcell⟩ := hr.2 h0
  have hz := hcell 0 _ (faceRow_at l 0 0 _ h0 rfl)
  obtain ⟨b, o, sp⟩ := ad
  have hsp : sp = none := by
    cases sp with
    | none => rfl
    | some x =>
      exfalso
      simp only [Addr.add, if_pos] at hz
      unfold World.cell? at hz
      simp only [Option.isSome_some, if_true] at hz
      split at hz <;> simp at hz
  subst hsp
  have hadd : ∀ n, (⟨b, o, none⟩ : Addr).add n = ⟨b, o + n, none⟩ := by
    intro n
    unfold Addr.add
    split
    · rename_i h; rw [h]; rfl
    · rfl
  refine ⟨b, o, rfl, hlt, fun k hk => ?_, fun k hk => ?_⟩
  · have := hcell _ _ (faceRow_at l k 0 _ hk rfl); rw [hadd] at this; exact this
  · have := hcell _ _ (faceRow_at l k 1 _ hk rfl); rw [hadd] at this; exact this
theorem faceCells_one (t : Tok) : ∀ u ∈ faceCells t, u.oneCell' = true := by
  intro u hu
  simp [faceCells] at hu
  rcases hu with rfl | rfl <;> rfl
def FacesPost (l : Bs) (w : World) (e : Ending) (w' : World) : Prop := ∃ v, e = .returned (.tuple #[v, .int .i64 (Mist.read l).2.2]) ∧ Faces w' v (Mist.read l).1 ∧ Below w.heap.size w w'
end Go.Proofs.YtpomgledekkjjaaDoor
