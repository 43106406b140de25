/-
  THE LAW CharsCleans, walked: for any text it answers true and leaves the old memory as it was.
-/
import Derived.Test.YtfdcimkdhioepaaCV
namespace Go.Proofs.Ytfdcimkdhioepaa
open Go.RowKit Go.Shelf Mist
attribute [local go_sem] ofL_extract ofL_size ofL_get ofL_bytes ofL_append
set_option maxRecDepth 100000 in
set_option maxHeartbeats 4000000 in
theorem cleans_law (s : Bs) (w : World) (hE : CEnv w) :
    Calls Try.prog 5 #[.string (ofL s)] w fun e w' => e = .returned (.bool true) ∧ Below w.heap.size w w' := by
  have HE := Lib.hid hE; clear hE
  by_cases hl : 5000 < s.length
  · go_enter Try.func5, Try.ntmps5
    go_wp2_with (go_at_call 14; refine (known_any _ HE.out).mono ?_; rintro e w1 ⟨rfl, hb1⟩)
    go_ret
    exact ⟨rfl, hb1⟩
  have hl2 : s.length ≤ 5000 := by omega
  go_enter Try.func5, Try.ntmps5
  go_wp2_with fail
  refine (clean_any s _ HE.out (by omega)).mono ?_
  rintro e w1 ⟨rfl, hb1⟩
  have HB1 := Lib.hid hb1; clear hb1
  go_wp2_with fail
  refine (rclean_any s _ (by omega)).mono ?_
  rintro e w2 ⟨rfl, hb2⟩
  have HB2 := Lib.hid (HB1.out.trans (hb2.mono HB1.out.size)); clear hb2
  go_wp2_with fail
  refine (known_any _ (HE.out.below HB2.out)).mono ?_
  rintro e wz ⟨rfl, hbz⟩
  have HBZ := Lib.hid (HB2.out.trans (hbz.mono HB2.out.size)); clear hbz
  go_wp2_with fail
  go_ret
  exact ⟨rfl, HBZ.out⟩
end Go.Proofs.Ytfdcimkdhioepaa
