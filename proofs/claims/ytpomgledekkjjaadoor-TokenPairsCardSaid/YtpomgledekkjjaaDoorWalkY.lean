/-
  WALKS: mistref02.Text and mistref02.Join.
-/
import Derived.Test.YtpomgledekkjjaaDoorWalkO
import Derived.Test.YtpomgledekkjjaaDoorWalkR
import Derived.Test.YtpomgledekkjjaaDoorWalkW
import Derived.Test.YtpomgledekkjjaaDoorPlain9
namespace Go.Proofs.YtpomgledekkjjaaDoor
open Go.RowKit Mist
attribute [local go_sem] ofL_extract ofL_size ofL_get ofL_bytes ofL_append
theorem blank_of (a b : Bs) : ofL a ++ ⟨#[32]⟩ ++ ofL b = ofL (a ++ spaces 1 ++ b) := by
  rw [show (ByteArray.mk #[32]) = ofL [32] from rfl, ofL_append, ofL_append]; rfl
theorem textPost_of {l : List Tok} {s : Bs} {x : Int} {w w' : World} (h : textOf l = s) (hx : x = checkToks l) (hb : Below w.heap.size w w') : TextPost l w (.returned (.tuple #[.string (ofL s), .int .i64 x])) w' := by
  subst hx; exact ⟨by rw [h], hb⟩
end Go.Proofs.YtpomgledekkjjaaDoor
