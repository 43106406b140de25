/-
  WALKS, fifth part: mistref02.First.
-/
import Derived.Test.YtpomgledekkjjaaDoorWalkD
namespace Go.Proofs.YtpomgledekkjjaaDoor
open Go.RowKit Mist
attribute [local go_sem] ofL_extract ofL_size ofL_get ofL_bytes
/-- The value of a token. -/
def tokVal (k : Nat) (t : Bs) (a : Int) : Value := .agg #[.int .u8 k, .string (ofL t), .int .i64 a]
/-- What mistref02.First hands back: a token with the kind 0, without text and place, if there is none. -/
def tokOf (l : Bs) (a : Nat) : Value := if (first l).1 = 0 then tokVal 0 [] 0 else tokVal (first l).1 (first l).2 a
theorem drop_gt0 (l : Bs) (a : Nat) : gt (l.drop a) 0 = gt l a := by rw [gt_drop]; rfl
theorem while_at (p : UInt8 → Bool) (l : Bs) (a k : Nat) (h1 : a ≤ k) (h2 : k ≤ l.length) (ha : ∀ c ∈ (l.drop a).take (k - a), p c = true) (he : k = l.length ∨ k < l.length ∧ p (gt l k) = false) :
    while_ p (l.drop a) = k - a := by
  refine while_eq p _ _ (by simp; omega) ha ?_
  rcases he with h | ⟨h, hf⟩
  · exact .inl (by simp; omega)
  · exact .inr ⟨by simp; omega, by rw [gt_drop, show a + (k - a) = k by omega]; exact hf⟩
theorem all_at (p : UInt8 → Bool) (l : Bs) (a k : Nat) (h1 : a ≤ k) (h2 : k < l.length) (ha : ∀ c ∈ (l.drop a).take (k - a), p c = true) (hp : p (gt l k) = true) : ∀ c ∈ (l.drop a).take (k + 1 - a), p c = true := by
  rw [show k + 1 - a = (k - a) + 1 by omega]
  refine all_snoc p _ _ (by simp; omega) ha ?_
  rw [gt_drop, show a + (k - a) = k by omega]; exact hp
theorem partB_or (b : UInt8) : partB b = (smallB b || digitB b) := rfl
end Go.Proofs.YtpomgledekkjjaaDoor
