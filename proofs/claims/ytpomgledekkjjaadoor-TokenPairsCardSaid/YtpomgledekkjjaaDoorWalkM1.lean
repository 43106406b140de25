/-
  WALKS: the law package's alone and gap.
-/
import Derived.Test.YtpomgledekkjjaaDoorWalkT
import Derived.Test.YtpomgledekkjjaaDoorPlain12
namespace Go.Proofs.YtpomgledekkjjaaDoor
open Go.RowKit Mist
attribute [local go_sem] ofL_extract ofL_size ofL_get ofL_bytes ofL_append
def BoolPost (x : Bool) (w : World) (e : Ending) (w' : World) : Prop := e = .returned (.bool x) ∧ Below w.heap.size w w'
theorem boolPost_of {x y : Bool} {w w' : World} (h : x = y) (hb : Below w.heap.size w w') : BoolPost x w (.returned (.bool y)) w' := ⟨by rw [h], hb⟩
end Go.Proofs.YtpomgledekkjjaaDoor
