/-
  THE LAW CharsFinds, walked: for any text and any part it answers true and leaves the old memory as it was.
-/
import Derived.Test.YtfdcimkdhioepaaCW
namespace Go.Proofs.Ytfdcimkdhioepaa
open Go.RowKit Go.Shelf Mist
attribute [local go_sem] ofL_extract ofL_size ofL_get ofL_bytes ofL_append
theorem findOf_len (s p : Bs) : (findOf s p).1.length ≤ s.length := by
  unfold findOf
  split
  · simp
  · split
    · simp
    · exact found_len s p s.length
set_option maxRecDepth 100000 in
set_option maxHeartbeats 4000000 in
theorem finds_law (s p : Bs) (w : World) (hE : CEnv w) :
    Calls Try.prog 6 #[.string (ofL s), .string (ofL p)] w fun e w' => e = .returned (.bool true) ∧ Below w.heap.size w w' := by
  have HE := Lib.hid hE; clear hE
  by_cases hl : 5000 < s.length
  · go_enter Try.func6, Try.ntmps6
    go_wp2_with (go_at_call 14; refine (known_any _ HE.out).mono ?_; rintro e w1 ⟨rfl, hb1⟩)
    go_ret
    exact ⟨rfl, hb1⟩
  by_cases hp : 5000 < p.length
  · go_enter Try.func6, Try.ntmps6
    go_wp2_with (go_at_call 14; refine (known_any _ HE.out).mono ?_; rintro e w1 ⟨rfl, hb1⟩)
    go_ret
    exact ⟨rfl, hb1⟩
  have hl2 : s.length ≤ 5000 := by omega
  have hp2 : p.length ≤ 5000 := by omega
  have hfl := findOf_len s p
  go_enter Try.func6, Try.ntmps6
  go_wp2_with fail
  refine (find_any s p _ (by omega) (by omega)).mono ?_
  rintro e w1 ⟨v1, rfl, hi1, hb1⟩
  have HB1 := Lib.hid hb1; clear hb1
  go_wp2_with fail
  refine (rfind_any s p _ (by omega) (by omega)).mono ?_
  rintro e w2 ⟨v2, rfl, hi2, hb2⟩
  have HI1 := Lib.hid (hi1.below hb2); clear hi1
  have HI2 := Lib.hid hi2; clear hi2
  have HB2 := Lib.hid (HB1.out.trans (hb2.mono HB1.out.size)); clear hb2
  go_wp2_with fail
  refine (ints_any _ _ _ _ HI1.out HI2.out (by omega)).mono ?_
  rintro e w3 ⟨rfl, hb3⟩
  have HB3 := Lib.hid (HB2.out.trans (hb3.mono HB2.out.size)); clear hb3
  go_wp2_with fail
  refine (known_any _ (HE.out.below HB3.out)).mono ?_
  rintro e wz ⟨rfl, hbz⟩
  have HBZ := Lib.hid (HB3.out.trans (hbz.mono HB3.out.size)); clear hbz
  go_wp2_with fail
  go_ret
  exact ⟨rfl, HBZ.out⟩
end Go.Proofs.Ytfdcimkdhioepaa
