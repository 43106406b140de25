/-
  THE LAW TokenSames, walked: for any two texts it answers true and leaves the old memory as it was.
-/
import Derived.Test.YtkckmnipidpdeaaDoorWalkS
import Derived.Test.YtkckmnipidpdeaaDoorWalkU
namespace Go.Proofs.YtkckmnipidpdeaaDoor
open Go.RowKit Mist
attribute [local go_sem] ofL_extract ofL_size ofL_get ofL_bytes ofL_append
set_option maxRecDepth 100000 in
set_option maxHeartbeats 4000000 in
theorem sames_law (a b : Bs) (w : World) (hE : Env w) :
    Calls Tryd.prog 10 #[.string (ofL a), .string (ofL b)] w fun e w' => e = .returned (.bool true) ∧ Below w.heap.size w w' := by
  have HE := Lib.hid hE; clear hE
  by_cases ha : 3000 < a.length
  · go_enter Tryd.func10, Tryd.ntmps10
    go_wp2_with (go_at_call 14; refine (known_any _ HE.out).mono ?_; rintro e w1 ⟨rfl, hb1⟩)
    go_ret
    exact ⟨rfl, hb1⟩
  · by_cases hb : 3000 < b.length
    · go_enter Tryd.func10, Tryd.ntmps10
      go_wp2_with (go_at_call 14; refine (known_any _ HE.out).mono ?_; rintro e w1 ⟨rfl, hb1⟩)
      go_ret
      exact ⟨rfl, hb1⟩
    · have hl : a.length + b.length ≤ 6000 := by omega
      go_enter Tryd.func10, Tryd.ntmps10
      go_wp2_with fail
      refine (same_any a b _ HE.out (by omega) (by omega)).mono ?_
      rintro e w1 ⟨rfl, hb1⟩
      have HE1 := Lib.hid (HE.out.below hb1)
      have HB1 := Lib.hid hb1; clear hb1
      go_wp2_with fail
      refine (rsame_any a b _ (by omega) (by omega)).mono ?_
      rintro e w2 ⟨rfl, hb2⟩
      have HE2 := Lib.hid (HE1.out.below hb2)
      have HB2 := Lib.hid (HB1.out.trans (hb2.mono HB1.out.size)); clear hb2
      go_wp2_with fail
      refine (known_any _ HE2.out).mono ?_
      rintro e w4 ⟨rfl, hb4⟩
      have HB4 := Lib.hid (HB2.out.trans (hb4.mono HB2.out.size)); clear hb4
      go_wp2_with fail
      go_ret
      exact ⟨rfl, HB4.out⟩
end Go.Proofs.YtkckmnipidpdeaaDoor
