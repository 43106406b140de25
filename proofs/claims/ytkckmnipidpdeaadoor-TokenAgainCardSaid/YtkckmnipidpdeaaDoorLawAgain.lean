/-
  THE LAW TokenAgain, walked: for any pairs of bytes it answers true and leaves the old memory as it was.
-/
import Derived.Test.YtkckmnipidpdeaaDoorWalkM6
namespace Go.Proofs.YtkckmnipidpdeaaDoor
open Go.RowKit Mist
attribute [local go_sem] ofL_extract ofL_size ofL_get ofL_bytes ofL_append
set_option maxRecDepth 100000 in
set_option maxHeartbeats 4000000 in
theorem again_law (v : Value) (bs : List (Nat × Nat)) (w : World) (hE : Env w) (hv : Pairs w v bs) (hby : ∀ p ∈ bs, p.1 < 256 ∧ p.2 < 256) (hl : bs.length ≤ 4611686018427387904) :
    Calls Tryd.prog 12 #[v] w fun e w' => e = .returned (.bool true) ∧ Below w.heap.size w w' := by
  have HE := Lib.hid hE; clear hE
  go_enter Tryd.func12, Tryd.ntmps12
  go_wp2_with fail
  refine (made_any v bs 60 _ hv (by omega) hby hl).mono ?_
  rintro e w1 ⟨v1, rfl, ht1, hb1⟩
  have h60 : (bs.take 60).length ≤ 60 := by rw [List.length_take]; omega
  obtain ⟨B, hB⟩ : ∃ B, B = bs.take 60 := ⟨_, rfl⟩
  rw [← hB] at ht1 h60 ⊢
  clear hB hv hby hl
  have hsl := madeText_len B
  have hjl := madeJoin_len B
  have hxl := madeShort_len B
  have hll := madeToks_len B
  have hrs := read_made B (by omega)
  have hrj := read_join B h60
  have hrx := read_least B h60
  have hck := made_check B h60
  have hjo := made_join B h60
  have hte := made_short B h60
  have hal := short_alike B
  have hsm := short_same B h60
  have hxn : (shortToks B).length = (madeToks B).length := by
    have := congrArg List.length (show (madeToks B).map faceOf = (shortToks B).map faceOf by unfold alikeB at hal; simpa using hal)
    simpa using this.symm
  obtain ⟨S, hS⟩ : ∃ S, S = madeText B := ⟨_, rfl⟩
  obtain ⟨J, hJ⟩ : ∃ J, J = madeJoin B := ⟨_, rfl⟩
  obtain ⟨X, hX⟩ : ∃ X, X = madeShort B := ⟨_, rfl⟩
  obtain ⟨L, hL⟩ : ∃ L, L = madeToks B := ⟨_, rfl⟩
  obtain ⟨Y, hY⟩ : ∃ Y, Y = shortToks B := ⟨_, rfl⟩
  rw [← hS] at hsl hjl hxl hrs hsm ⊢
  rw [← hJ] at hjl hrj hjo
  rw [← hX] at hxl hrx hte hsm
  rw [← hL] at ht1 hll hrs hrj hck hjo hte hal hxn
  rw [← hY] at hrx hal hxn
  clear hS hJ hX hL hY
  have hS2 : S.length ≤ 1200 := by omega
  have hJ2 : J.length ≤ 1200 := by omega
  have hX2 : X.length ≤ J.length := by omega
  have hL2 : L.length ≤ 60 := by omega
  have hY2 : Y.length ≤ 60 := by omega
  have HJL := Lib.hid hjl
  have hJS : J.length ≤ S.length := by omega
  clear hxl hll hxn hsl h60 hjl
  have HRS := Lib.hid hrs; clear hrs
  have HRJ := Lib.hid hrj; clear hrj
  have HRX := Lib.hid hrx; clear hrx
  have HCK := Lib.hid hck; clear hck
  have HJO := Lib.hid hjo; clear hjo
  have HTE := Lib.hid hte; clear hte
  have HAL := Lib.hid hal; clear hal
  have HSM := Lib.hid hsm; clear hsm
  have HT1 := Lib.hid ht1; clear ht1
  have HE1 := Lib.hid (HE.out.below hb1)
  have HB1 := Lib.hid hb1; clear hb1
  go_wp2_with fail
  refine (readw S L _ HE1.out (by omega) HRS.out).mono ?_
  rintro e w2 ⟨v2, rfl, ht2, hb2⟩
  have HM := Lib.hid ht2; clear ht2
  have HT2 := Lib.hid (HT1.out.below hb2)
  have HE2 := Lib.hid (HE1.out.below hb2)
  have HB2 := Lib.hid (HB1.out.trans (hb2.mono HB1.out.size)); clear hb2
  go_wp2_with fail
  refine (tsame_eq v1 v2 L _ HT2.out HM.out (by omega)).mono ?_
  rintro e w3 ⟨rfl, hb3⟩
  have HT3 := Lib.hid (HT2.out.below hb3)
  have HE3 := Lib.hid (HE2.out.below hb3)
  have HB3 := Lib.hid (HB2.out.trans (hb3.mono HB2.out.size)); clear hb3
  go_wp2_with fail
  refine (ownw v1 L _ HT3.out HCK.out).mono ?_
  rintro e w4 ⟨v4, rfl, ht4, hb4⟩
  have HO4 := Lib.hid ht4; clear ht4
  have HT4 := Lib.hid (HT3.out.below hb4)
  have HE4 := Lib.hid (HE3.out.below hb4)
  have HB4 := Lib.hid (HB3.out.trans (hb4.mono HB3.out.size)); clear hb4
  go_wp2_with fail
  refine (checkw v4 L _ HE4.out HO4.out HCK.out).mono ?_
  rintro e w5 ⟨rfl, hb5⟩
  have HT5 := Lib.hid (HT4.out.below hb5)
  have HE5 := Lib.hid (HE4.out.below hb5)
  have HB5 := Lib.hid (HB4.out.trans (hb5.mono HB4.out.size)); clear hb5
  go_wp2_with fail
  refine (ownw v1 L _ HT5.out HCK.out).mono ?_
  rintro e w6 ⟨v6, rfl, ht6, hb6⟩
  have HO6 := Lib.hid ht6; clear ht6
  have HT6 := Lib.hid (HT5.out.below hb6)
  have HE6 := Lib.hid (HE5.out.below hb6)
  have HB6 := Lib.hid (HB5.out.trans (hb6.mono HB5.out.size)); clear hb6
  go_wp2_with fail
  refine (joinw v6 L J _ HE6.out HO6.out HCK.out HJO.out).mono ?_
  rintro e w7 ⟨rfl, hb7⟩
  have HT7 := Lib.hid (HT6.out.below hb7)
  have HE7 := Lib.hid (HE6.out.below hb7)
  have HB7 := Lib.hid (HB6.out.trans (hb7.mono HB6.out.size)); clear hb7
  go_wp2_with fail
  refine (ownw v1 L _ HT7.out HCK.out).mono ?_
  rintro e w8 ⟨v8, rfl, ht8, hb8⟩
  have HO8 := Lib.hid ht8; clear ht8
  have HT8 := Lib.hid (HT7.out.below hb8)
  have HE8 := Lib.hid (HE7.out.below hb8)
  have HB8 := Lib.hid (HB7.out.trans (hb8.mono HB7.out.size)); clear hb8
  go_wp2_with fail
  refine (textw v8 L X _ HE8.out HO8.out HCK.out HTE.out).mono ?_
  rintro e w9 ⟨rfl, hb9⟩
  have HT9 := Lib.hid (HT8.out.below hb9)
  have HE9 := Lib.hid (HE8.out.below hb9)
  have HB9 := Lib.hid (HB8.out.trans (hb9.mono HB8.out.size)); clear hb9
  go_wp2_with fail
  refine (readw J L _ HE9.out (by omega) HRJ.out).mono ?_
  rintro e w10 ⟨v10, rfl, ht10, hb10⟩
  have HX10 := Lib.hid ht10; clear ht10
  have HT10 := Lib.hid (HT9.out.below hb10)
  have HE10 := Lib.hid (HE9.out.below hb10)
  have HB10 := Lib.hid (HB9.out.trans (hb10.mono HB9.out.size)); clear hb10
  go_wp2_with fail
  refine (readw X Y _ HE10.out (by omega) HRX.out).mono ?_
  rintro e w11 ⟨v11, rfl, ht11, hb11⟩
  have HY11 := Lib.hid ht11; clear ht11
  have HX11 := Lib.hid (HX10.out.below hb11)
  have HT11 := Lib.hid (HT10.out.below hb11)
  have HE11 := Lib.hid (HE10.out.below hb11)
  have HB11 := Lib.hid (HB10.out.trans (hb11.mono HB10.out.size)); clear hb11
  go_wp2_with fail
  refine (samew S X _ HE11.out (by omega) (by omega) HSM.out).mono ?_
  rintro e w12 ⟨rfl, hb12⟩
  have HY12 := Lib.hid (HY11.out.below hb12)
  have HX12 := Lib.hid (HX11.out.below hb12)
  have HT12 := Lib.hid (HT11.out.below hb12)
  have HE12 := Lib.hid (HE11.out.below hb12)
  have HB12 := Lib.hid (HB11.out.trans (hb12.mono HB11.out.size)); clear hb12
  go_wp2_with fail
  refine (tsame_eq v1 v10 L _ HT12.out HX12.out (by omega)).mono ?_
  rintro e w13 ⟨rfl, hb13⟩
  have HY13 := Lib.hid (HY12.out.below hb13)
  have HT13 := Lib.hid (HT12.out.below hb13)
  have HE13 := Lib.hid (HE12.out.below hb13)
  have HB13 := Lib.hid (HB12.out.trans (hb13.mono HB12.out.size)); clear hb13
  go_wp2_with fail
  refine (alikew v1 v11 L Y true _ HT13.out HY13.out (by omega) (by omega) HAL.out).mono ?_
  rintro e w14 ⟨rfl, hb14⟩
  have HE14 := Lib.hid (HE13.out.below hb14)
  have HB14 := Lib.hid (HB13.out.trans (hb14.mono HB13.out.size)); clear hb14
  go_wp2_with fail
  refine (known_any _ HE14.out).mono ?_
  rintro e wz ⟨rfl, hbz⟩
  have HBZ := Lib.hid (HB14.out.trans (hbz.mono HB14.out.size)); clear hbz
  go_wp2_with fail
  go_ret
  exact ⟨rfl, HBZ.out⟩
end Go.Proofs.YtkckmnipidpdeaaDoor
