/-
  THE LAW CharsShows, walked: for any text, line and offset it answers true and leaves the old memory as it was.
-/
import Derived.Test.YtfdcimkdhioepaaCX
namespace Go.Proofs.Ytfdcimkdhioepaa
open Go.RowKit Go.Shelf Mist
attribute [local go_sem] ofL_extract ofL_size ofL_get ofL_bytes ofL_append
set_option maxRecDepth 100000 in
set_option maxHeartbeats 4000000 in
theorem shows_law (s : Bs) (k a : Int) (w : World) (hE : CEnv w) :
    Calls Try.prog 12 #[.string (ofL s), .int .i64 k, .int .i64 a] w fun e w' => e = .returned (.bool true) ∧ Below w.heap.size w w' := by
  have HE := Lib.hid hE; clear hE
  by_cases hl : 5000 < s.length
  · go_enter Try.func12, Try.ntmps12
    go_wp2_with (go_at_call 14; refine (known_any _ HE.out).mono ?_; rintro e w1 ⟨rfl, hb1⟩)
    go_ret
    exact ⟨rfl, hb1⟩
  have hl2 : s.length ≤ 5000 := by omega
  go_enter Try.func12, Try.ntmps12
  go_wp2_with fail
  refine (lineT_any s k _ (by omega)).mono ?_
  rintro e w1 ⟨rfl, hb1⟩
  have HB1 := Lib.hid hb1; clear hb1
  go_wp2_with fail
  refine (show_any s a _ (by omega)).mono ?_
  rintro e w2 ⟨rfl, hb2⟩
  have HB2 := Lib.hid (HB1.out.trans (hb2.mono HB1.out.size)); clear hb2
  go_wp2_with fail
  refine (rline_any s k _ (by omega)).mono ?_
  rintro e w3 ⟨rfl, hb3⟩
  have HB3 := Lib.hid (HB2.out.trans (hb3.mono HB2.out.size)); clear hb3
  go_wp2_with fail
  refine (rshow_any s a _ (by omega)).mono ?_
  rintro e w4 ⟨rfl, hb4⟩
  have HB4 := Lib.hid (HB3.out.trans (hb4.mono HB3.out.size)); clear hb4
  go_wp2_with fail
  refine (known_any _ (HE.out.below HB4.out)).mono ?_
  rintro e wz ⟨rfl, hbz⟩
  have HBZ := Lib.hid (HB4.out.trans (hbz.mono HB4.out.size)); clear hbz
  go_wp2_with fail
  go_ret
  exact ⟨rfl, HBZ.out⟩
end Go.Proofs.Ytfdcimkdhioepaa
