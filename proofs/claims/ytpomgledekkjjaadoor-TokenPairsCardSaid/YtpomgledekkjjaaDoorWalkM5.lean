/-
  WALKS: the law package's made.
-/
import Derived.Test.YtpomgledekkjjaaDoorWalkM1
import Derived.Test.YtpomgledekkjjaaDoorWalkM3
import Derived.Test.YtpomgledekkjjaaDoorWalkM4
import Derived.Test.YtpomgledekkjjaaDoorPlain17
namespace Go.Proofs.YtpomgledekkjjaaDoor
open Go.RowKit Mist
attribute [local go_sem] ofL_extract ofL_size ofL_get ofL_bytes ofL_append
def MadePost (bs : List (Nat × Nat)) (w : World) (e : Ending) (w' : World) : Prop := ∃ v, e = .returned (.tuple #[v, .string (ofL (madeText bs))]) ∧ Toks w' v (madeToks bs) ∧ Below w.heap.size w w'
theorem madePost_of {a b : List (Nat × Nat)} {w w' : World} {v : Value} (h : a = b) (ht : Toks w' v (madeToks b)) (hb : Below w.heap.size w w') : MadePost a w (.returned (.tuple #[v, .string (ofL (madeText b))])) w' := by
  subst h; exact ⟨v, rfl, ht, hb⟩
theorem made_toks {w : World} {base n : Nat} {v : Value} {bs : List (Nat × Nat)} (h : w.ownsRow base 26 3 v n (rowCells (madeToks bs))) (hn : bs.length = n) : Toks w v (madeToks bs) := by
  refine Toks.of_own (base := base) ?_
  rw [madeToks_len, hn]; exact h
/-- The token's box, and what else a round of made holds on to. -/
structure MBox (w : World) (g k : Nat) (t : Bs) (a : Int) (v : Value) (n : Nat) (L : List Tok) (b8 o8 : Nat) (W : World) : Prop where
  c0 : W.cell? ⟨g, 0, none⟩ = some (.int .u8 k)
  c1 : W.cell? ⟨g, 1, none⟩ = some (.string (ofL t))
  c2 : W.cell? ⟨g, 2, none⟩ = some (.int .i64 a)
  own : W.ownsRow w.heap.size 26 3 v n (rowCells L)
  row : TokRow W b8 o8 pieces
  below : Below w.heap.size w W
  lt : g < W.heap.size
  far : w.heap.size ≤ g
  ne : v.ownBlock ≠ some g
  ne8 : b8 ≠ g
  far8 : v.ownBlock ≠ some b8
  fz : W.frozen? ⟨g, 2, none⟩ = false
theorem MBox.new {w wr : World} {k : Nat} {t : Bs} {a : Int} {v : Value} {n : Nat} {L : List Tok} {b8 o8 : Nat}
    (ho : wr.ownsRow w.heap.size 26 3 v n (rowCells L)) (hr : TokRow wr b8 o8 pieces) (hb : Below w.heap.size w wr) (h8 : v.ownBlock ≠ some b8) : MBox w wr.heap.size k t a v n L b8 o8 (wr.alloc (.cells #[.int .u8 k, .string (ofL t), .int .i64 a] 26)) := by
  have hnew := heap_alloc_new wr (.cells #[.int .u8 k, .string (ofL t), .int .i64 a] 26)
  exact ⟨by rw [Lib.cell_of_heap hnew]; rfl, by rw [Lib.cell_of_heap hnew]; rfl, by rw [Lib.cell_of_heap hnew]; rfl, ho.alloc _, hr.below ((Below.refl _ _).alloc (Nat.le_refl _) _), hb.alloc hb.size _, by simp, hb.size,
    fun h => by have := (ho.lt _ h).2; omega, fun h => by have := hr.lt; omega, h8, by unfold World.frozen?; simp only [hnew]; rfl⟩
theorem MBox.next {w W W' : World} {g k : Nat} {t : Bs} {a : Int} {v : Value} {n : Nat} {L : List Tok} {b8 o8 : Nat} (h : MBox w g k t a v n L b8 o8 W) (hb : Below W.heap.size W W') : MBox w g k t a v n L b8 o8 W' :=
  ⟨(hb.cell (p := ⟨g, 0, none⟩) h.lt).trans h.c0, (hb.cell (p := ⟨g, 1, none⟩) h.lt).trans h.c1, (hb.cell (p := ⟨g, 2, none⟩) h.lt).trans h.c2, own_below h.own hb, h.row.below hb, h.below.trans (hb.mono h.below.size), Nat.lt_of_lt_of_le h.lt hb.size, h.far, h.ne, h.ne8, h.far8, (by have := hb.block g h.lt; unfold World.frozen?; simp only [this]; exact h.fz)⟩
theorem MBox.set_ {w W : World} {g k : Nat} {t : Bs} {a : Int} {v : Value} {n : Nat} {L : List Tok} {b8 o8 : Nat} (h : MBox w g k t a v n L b8 o8 W) (a' : Int) : MBox w g k t a' v n L b8 o8 (W.setCell ⟨g, 2, none⟩ (.int .i64 a')) := by
  have hb8 : ∀ j, (W.setCell ⟨g, 2, none⟩ (.int .i64 a')).cell? ⟨b8, j, none⟩ = W.cell? ⟨b8, j, none⟩ := fun j => World.cell?_setCell_other W _ _ _ (fun e => h.ne8 (by injection e with e1; exact e1.symm))
  exact ⟨(World.cell?_setCell_other W _ _ _ (by simp)).trans h.c0, (World.cell?_setCell_other W _ _ _ (by simp)).trans h.c1, World.cell?_setCell_same' _ _ _ (by rw [h.c2]; rfl),
    ownsRow_setCell_other h.own h.ne _, ⟨by simpa using h.row.lt, fun j hj => (hb8 _).trans (h.row.kind j hj), fun j hj => (hb8 _).trans (h.row.text j hj), fun j hj => (hb8 _).trans (h.row.at_ j hj)⟩, h.below.setCell (p := ⟨g, 2, none⟩) h.far _, by simpa using h.lt, h.far, h.ne, h.ne8, h.far8, by rw [World.frozen?_setCell]; exact h.fz⟩
/-- What stands behind the append. -/
theorem MBox.grown {w W W1 : World} {g k : Nat} {t : Bs} {a : Int} {v : Value} {n : Nat} {L : List Tok} {b8 o8 gg cap m : Nat} {o : Obj} (h : MBox w g k t a v n L b8 o8 W) (hg : ((W.alloc o).drew).grownBy W1 v.ownBlock) (hat : v.ownBlock = some gg ∨ gg = W.heap.size + 1) :
    TokRow W1 b8 o8 pieces ∧ (Value.slice (some ⟨gg, 0, none⟩) m cap).ownBlock ≠ some b8 ∧ Below w.heap.size w W1 := by
  have hr : TokRow (W.alloc o) b8 o8 pieces := h.row.below ((Below.refl _ _).alloc (Nat.le_refl _) _)
  have hc : ∀ j, W1.cell? ⟨b8, j, none⟩ = (W.alloc o).cell? ⟨b8, j, none⟩ := fun j => World.cell?_of_block (hg.block b8 hr.lt (fun e => h.far8 e.symm))
  refine ⟨⟨?_, fun j hj => (hc _).trans (hr.kind j hj), fun j hj => (hc _).trans (hr.text j hj), fun j hj => (hc _).trans (hr.at_ j hj)⟩, ?_, ?_⟩
  · exact Nat.lt_of_lt_of_le hr.lt hg.size
  · intro e
    have e2 : gg = b8 := by simpa [Value.ownBlock] using e
    rcases hat with hat | hat
    · exact h.far8 (by rw [hat, e2])
    · have := h.row.lt; omega
  · exact (h.below.alloc h.below.size o).drew.grown hg (by have := h.below.size; simp; omega) (fun k hk => (h.own.lt k hk).1)
theorem world_gen {P : Program} {c : Code} {Q : Exit → Act → World → Prop} {a : Act} {W0 : World} (F : World → Prop) (h0 : F W0) (h : ∀ W, F W → c.wp P Q a W) : c.wp P Q a W0 := h W0 h0
end Go.Proofs.YtpomgledekkjjaaDoor
