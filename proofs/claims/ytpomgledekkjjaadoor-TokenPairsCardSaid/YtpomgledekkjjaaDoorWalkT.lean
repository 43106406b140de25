/-
  WALKS: mistref02.Alike and mistref02.Same.
-/
import Derived.Test.YtpomgledekkjjaaDoorWalkJ
import Derived.Test.YtpomgledekkjjaaDoorPlain7
namespace Go.Proofs.YtpomgledekkjjaaDoor
open Go.RowKit Mist
attribute [local go_sem] ofL_extract ofL_size ofL_get ofL_bytes ofL_append
def AlikePost (l m : List Tok) (w : World) (e : Ending) (w' : World) : Prop := e = .returned (.bool (alikeB l m)) ∧ Below w.heap.size w w'
theorem alikePost_of {l m : List Tok} {w w' : World} {x : Bool} (h : alikeB l m = x) (hb : Below w.heap.size w w') : AlikePost l m w (.returned (.bool x)) w' := ⟨by rw [h], hb⟩
end Go.Proofs.YtpomgledekkjjaaDoor
