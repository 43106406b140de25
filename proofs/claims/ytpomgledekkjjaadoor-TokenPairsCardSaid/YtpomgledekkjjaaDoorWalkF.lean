/-
  WALKS, sixth part: mistref02.First at a sign and at the end; the whole.
-/
import Derived.Test.YtpomgledekkjjaaDoorWalkE
import Derived.Deep.QuietTactic
import Derived.BigQuiet
import Derived.IntWalk
namespace Go.Proofs.YtpomgledekkjjaaDoor
open Go.RowKit Mist
attribute [local go_sem] ofL_extract ofL_size ofL_get ofL_bytes
theorem bdrewN {B : Nat} {a w : World} (h : Below B a w) (n : Nat) : Below B a (w.drewN n) := h.trans ⟨rfl, rfl, rfl, Nat.le_refl _, fun _ _ => rfl⟩
theorem prefB_at (g l : Bs) (a : Nat) : prefB g (l.drop a) = (decide (a + g.length ≤ max a l.length) && ((l.take (a + g.length)).drop a == g)) := by
  rw [Bool.eq_iff_iff, prefB, List.isPrefixOf_iff_prefix, List.prefix_iff_eq_take, List.drop_take]
  simp only [Nat.add_sub_cancel_left, Bool.and_eq_true, decide_eq_true_eq, beq_iff_eq]
  constructor
  · intro h
    refine ⟨?_, h.symm⟩
    have := congrArg List.length h
    simp at this
    omega
  · exact fun h => h.2.symm
end Go.Proofs.YtpomgledekkjjaaDoor
