/-
  WALKS: the law package's pieces.
-/
import Derived.Test.YtkckmnipidpdeaaDoorWalkJ
import Derived.Test.YtkckmnipidpdeaaDoorPlain12
namespace Go.Proofs.YtkckmnipidpdeaaDoor
open Go.RowKit Mist
attribute [local go_sem] ofL_extract ofL_size ofL_get ofL_bytes ofL_append
theorem Toks.new (l : List Tok) (w : World) : Toks (w.alloc (.cells (rowCells l).toArray 38)) (.slice (some ⟨w.heap.size, 0, none⟩) l.length l.length) l :=
  ⟨some ⟨w.heap.size, 0, none⟩, l.length, rfl, Nat.le_refl _, ⟨by rw [rowCells_len], fun _ => ⟨_, rfl, by rw [World.size_alloc]; exact Nat.lt_succ_self _, cells_new w (rowCells l) 38⟩⟩⟩
def PiecesPost (w : World) (e : Ending) (w' : World) : Prop := ∃ v, e = .returned v ∧ Toks w' v pieces ∧ Below w.heap.size w w'
set_option maxRecDepth 100000 in
set_option maxHeartbeats 2000000 in
theorem pieces_any (w : World) : Calls Tryd.prog 52 #[] w (PiecesPost w) := by
  go_enter Tryd.func52, Tryd.ntmps52
  go_wp2
  go_ret
  exact ⟨_, rfl, Toks.new pieces w, (Below.refl _ _).alloc (Nat.le_refl _) _⟩
end Go.Proofs.YtkckmnipidpdeaaDoor
