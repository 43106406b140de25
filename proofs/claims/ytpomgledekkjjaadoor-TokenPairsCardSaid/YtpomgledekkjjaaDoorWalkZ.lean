/-
  WALKS: mistref02.Join and token.Join.
-/
import Derived.Test.YtpomgledekkjjaaDoorWalkY
namespace Go.Proofs.YtpomgledekkjjaaDoor
open Go.RowKit Mist
attribute [local go_sem] ofL_extract ofL_size ofL_get ofL_bytes ofL_append
def JoinPost (l : List Tok) (w : World) (e : Ending) (w' : World) : Prop := e = .returned (.tuple #[.string (ofL (joinOf l).1), .int .i64 (joinOf l).2]) ∧ Below w.heap.size w w'
theorem joinPost_of {l : List Tok} {s : Bs} {x : Int} {k : Nat} {w w' : World} (h : joinOf l = (s, k)) (hx : x = k) (hb : Below w.heap.size w w') : JoinPost l w (.returned (.tuple #[.string (ofL s), .int .i64 x])) w' := by
  subst hx; exact ⟨by rw [h], hb⟩
theorem spaces_len (q : Nat) : (spaces q).length = q := by simp [spaces]
attribute [local go_sem] spaces_len
theorem blank_end (a : Bs) (k : Nat) : ofL (a ++ spaces k) ++ ⟨#[32]⟩ = ofL (a ++ spaces (k + 1)) := by
  rw [show (ByteArray.mk #[32]) = ofL [32] from rfl, ofL_append, List.append_assoc]
  congr 2
  simp [spaces, List.replicate_succ']
end Go.Proofs.YtpomgledekkjjaaDoor
