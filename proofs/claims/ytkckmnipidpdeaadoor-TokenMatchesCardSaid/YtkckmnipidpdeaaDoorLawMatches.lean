/-
  THE LAW TokenMatches, walked: for any tokens and any number it answers true and leaves the old memory as it was.
-/
import Derived.Test.YtkckmnipidpdeaaDoorWalkS
import Derived.Test.YtkckmnipidpdeaaDoorWalkV
import Derived.Test.YtkckmnipidpdeaaDoorWalkX
namespace Go.Proofs.YtkckmnipidpdeaaDoor
open Go.RowKit Mist
attribute [local go_sem] ofL_extract ofL_size ofL_get ofL_bytes ofL_append
set_option maxRecDepth 100000 in
set_option maxHeartbeats 4000000 in
theorem matches_law (v : Value) (l : List Tok) (a : Int) (w : World) (hE : Env w) (hv : Toks w v l) (hw : TokWide l) (hl : l.length ≤ 4611686018427387904) :
    Calls Tryd.prog 5 #[v, .int .i64 a] w fun e w' => e = .returned (.bool true) ∧ Below w.heap.size w w' := by
  have HE := Lib.hid hE; clear hE
  have HV := Lib.hid hv; clear hv
  have HW := Lib.hid hw; clear hw
  go_enter Tryd.func5, Tryd.ntmps5
  go_wp2_with fail
  refine (long_any v l _ HV.out HW.out hl).mono ?_
  rintro e w1 ⟨x, rfl, rfl, hx⟩
  have HX := Lib.hid hx; clear hx
  cases x
  case true =>
    go_wp2_with fail
    refine (known_any _ HE.out).mono ?_
    rintro e w2 ⟨rfl, hb2⟩
    go_wp2_with fail
    go_ret
    exact ⟨rfl, hb2⟩
  obtain ⟨hl1, hl2⟩ := HX.out rfl
  have HOK := Lib.hid (ok_of_lens l HW.out hl2)
  clear HX
  go_wp2_with fail
  refine (own_any v l _ HV.out (by omega)).mono ?_
  rintro e w2 ⟨v2, rfl, ht2, hb2⟩
  have HT2 := Lib.hid ht2; clear ht2
  have HV2 := Lib.hid (HV.out.below hb2)
  have HE2 := Lib.hid (HE.out.below hb2)
  have HB2 := Lib.hid hb2; clear hb2
  go_wp2_with fail
  refine (match_any v2 l a _ HE2.out HT2.out HOK.out).mono ?_
  rintro e w3 ⟨rfl, hb3⟩
  have HT3 := Lib.hid (HT2.out.below hb3)
  have HV3 := Lib.hid (HV2.out.below hb3)
  have HE3 := Lib.hid (HE2.out.below hb3)
  have HB3 := Lib.hid (HB2.out.trans (hb3.mono HB2.out.size)); clear hb3
  go_wp2_with fail
  refine (rmatch_any v l a _ HV3.out HOK.out).mono ?_
  rintro e w4 ⟨rfl, hb4⟩
  have HT4 := Lib.hid (HT3.out.below hb4)
  have HV4 := Lib.hid (HV3.out.below hb4)
  have HE4 := Lib.hid (HE3.out.below hb4)
  have HB4 := Lib.hid (HB3.out.trans (hb4.mono HB3.out.size)); clear hb4
  go_wp2_with fail
  refine (equal_any v2 v l _ HT4.out HV4.out (by omega)).mono ?_
  rintro e w5 ⟨rfl, hb5⟩
  have HE5 := Lib.hid (HE4.out.below hb5)
  have HB5 := Lib.hid (HB4.out.trans (hb5.mono HB4.out.size)); clear hb5
  go_wp2_with fail
  refine (known_any _ HE5.out).mono ?_
  rintro e w6 ⟨rfl, hb6⟩
  have HB6 := Lib.hid (HB5.out.trans (hb6.mono HB5.out.size)); clear hb6
  go_wp2_with fail
  go_ret
  exact ⟨rfl, HB6.out⟩
end Go.Proofs.YtkckmnipidpdeaaDoor
