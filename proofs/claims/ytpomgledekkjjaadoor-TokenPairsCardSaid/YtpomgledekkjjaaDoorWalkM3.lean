/-
  WALKS: the law package's pieces.
-/
import Derived.Test.YtpomgledekkjjaaDoorWalkJ
import Derived.Test.YtpomgledekkjjaaDoorPlain12
namespace Go.Proofs.YtpomgledekkjjaaDoor
open Go.RowKit Mist
attribute [local go_sem] ofL_extract ofL_size ofL_get ofL_bytes ofL_append
theorem Toks.new (l : List Tok) (w : World) : Toks (w.alloc (.cells (rowCells l).toArray 26)) (.slice (some ⟨w.heap.size, 0, none⟩) l.length l.length) l :=
  ⟨some ⟨w.heap.size, 0, none⟩, l.length, rfl, Nat.le_refl _, ⟨by rw [rowCells_len], fun _ => ⟨_, rfl, by rw [World.size_alloc]; exact Nat.lt_succ_self _, cells_new w (rowCells l) 26⟩⟩⟩
def PiecesPost (w : World) (e : Ending) (w' : World) : Prop := ∃ v, e = .returned v ∧ Toks w' v pieces ∧ Below w.heap.size w w'
end Go.Proofs.YtpomgledekkjjaaDoor
