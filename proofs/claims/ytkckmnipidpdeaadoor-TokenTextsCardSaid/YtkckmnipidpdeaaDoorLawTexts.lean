/-
  THE LAW TokenTexts, walked: for any tokens it answers true and leaves the old memory as it was.
-/
import Derived.Test.YtkckmnipidpdeaaDoorWalkS
import Derived.Test.YtkckmnipidpdeaaDoorWalkV
import Derived.Test.YtkckmnipidpdeaaDoorWalkZ2
namespace Go.Proofs.YtkckmnipidpdeaaDoor
open Go.RowKit Mist
attribute [local go_sem] ofL_extract ofL_size ofL_get ofL_bytes ofL_append
set_option maxRecDepth 100000 in
set_option maxHeartbeats 4000000 in
theorem texts_law (v : Value) (l : List Tok) (w : World) (hE : Env w) (hv : Toks w v l) (hw : TokWide l) (hl : l.length ≤ 4611686018427387904) :
    Calls Tryd.prog 9 #[v] w fun e w' => e = .returned (.bool true) ∧ Below w.heap.size w w' := by
  have HE := Lib.hid hE; clear hE
  have HV := Lib.hid hv; clear hv
  have HW := Lib.hid hw; clear hw
  go_enter Tryd.func9, Tryd.ntmps9
  go_wp2_with fail
  refine (long_any v l _ HV.out HW.out hl).mono ?_
  rintro e w1 ⟨x, rfl, rfl, hx⟩
  have HX := Lib.hid hx; clear hx
  cases x
  case true =>
    go_wp2_with fail
    refine (known_any _ HE.out).mono ?_
    rintro e w2 ⟨rfl, hb2⟩
    go_wp2_with fail
    go_ret
    exact ⟨rfl, hb2⟩
  obtain ⟨hl1, hl2⟩ := HX.out rfl
  have HOK := Lib.hid (ok_of_lens l HW.out hl2)
  clear HX
  go_wp2_with fail
  refine (own_any v l _ HV.out (by omega)).mono ?_
  rintro e w2 ⟨v2, rfl, ht2, hb2⟩
  have HT2 := Lib.hid ht2; clear ht2
  have HV2 := Lib.hid (HV.out.below hb2)
  have HE2 := Lib.hid (HE.out.below hb2)
  have HB2 := Lib.hid hb2; clear hb2
  go_wp2_with fail
  refine (tcheck_any v2 l _ HE2.out HT2.out HOK.out).mono ?_
  rintro e w3 ⟨rfl, hb3⟩
  have HT3 := Lib.hid (HT2.out.below hb3)
  have HV3 := Lib.hid (HV2.out.below hb3)
  have HE3 := Lib.hid (HE2.out.below hb3)
  have HB3 := Lib.hid (HB2.out.trans (hb3.mono HB2.out.size)); clear hb3
  go_wp2_with fail
  refine (join_any v2 l _ HE3.out HT3.out HOK.out).mono ?_
  rintro e w4 ⟨rfl, hb4⟩
  have HT4 := Lib.hid (HT3.out.below hb4)
  have HV4 := Lib.hid (HV3.out.below hb4)
  have HE4 := Lib.hid (HE3.out.below hb4)
  have HB4 := Lib.hid (HB3.out.trans (hb4.mono HB3.out.size)); clear hb4
  go_wp2_with fail
  refine (text_any v2 l _ HE4.out HT4.out HOK.out).mono ?_
  rintro e w5 ⟨rfl, hb5⟩
  have HT5 := Lib.hid (HT4.out.below hb5)
  have HV5 := Lib.hid (HV4.out.below hb5)
  have HE5 := Lib.hid (HE4.out.below hb5)
  have HB5 := Lib.hid (HB4.out.trans (hb5.mono HB4.out.size)); clear hb5
  go_wp2_with fail
  refine (rjoin_any v l _ HV5.out HOK.out).mono ?_
  rintro e w6 ⟨rfl, hb6⟩
  have HT6 := Lib.hid (HT5.out.below hb6)
  have HV6 := Lib.hid (HV5.out.below hb6)
  have HE6 := Lib.hid (HE5.out.below hb6)
  have HB6 := Lib.hid (HB5.out.trans (hb6.mono HB5.out.size)); clear hb6
  go_wp2_with fail
  refine (rtext_any v l _ HV6.out HOK.out).mono ?_
  rintro e w7 ⟨rfl, hb7⟩
  have HT7 := Lib.hid (HT6.out.below hb7)
  have HV7 := Lib.hid (HV6.out.below hb7)
  have HE7 := Lib.hid (HE6.out.below hb7)
  have HB7 := Lib.hid (HB6.out.trans (hb7.mono HB6.out.size)); clear hb7
  go_wp2_with fail
  refine (equal_any v2 v l _ HT7.out HV7.out (by omega)).mono ?_
  rintro e w8 ⟨rfl, hb8⟩
  have HT8 := Lib.hid (HT7.out.below hb8)
  have HV8 := Lib.hid (HV7.out.below hb8)
  have HE8 := Lib.hid (HE7.out.below hb8)
  have HB8 := Lib.hid (HB7.out.trans (hb8.mono HB7.out.size)); clear hb8
  go_wp2_with fail
  refine (rtcheck_any v l _ HV8.out HOK.out).mono ?_
  rintro e w9 ⟨rfl, hb9⟩
  have HT9 := Lib.hid (HT8.out.below hb9)
  have HV9 := Lib.hid (HV8.out.below hb9)
  have HE9 := Lib.hid (HE8.out.below hb9)
  have HB9 := Lib.hid (HB8.out.trans (hb9.mono HB8.out.size)); clear hb9
  go_wp2_with fail
  refine (known_any _ HE9.out).mono ?_
  rintro e wz ⟨rfl, hbz⟩
  have HBZ := Lib.hid (HB9.out.trans (hbz.mono HB9.out.size)); clear hbz
  go_wp2_with fail
  go_ret
  exact ⟨rfl, HBZ.out⟩
end Go.Proofs.YtkckmnipidpdeaaDoor
