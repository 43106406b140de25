/-
  WALKS, nineteenth part: the document's examples (mistlaw02.known).
-/
import Derived.Test.YtpomgledekkjjaaDoorWalkR
namespace Go.Proofs.YtpomgledekkjjaaDoor
open Go.RowKit Mist
attribute [local go_sem] ofL_extract ofL_size ofL_get ofL_bytes ofL_append
def ex1 : List Tok := [⟨3, [108, 101, 116], 0⟩, ⟨1, [97, 49], 4⟩, ⟨4, [61], 7⟩, ⟨2, [49, 48], 9⟩, ⟨4, [46, 46], 11⟩, ⟨4, [45], 13⟩, ⟨2, [50], 14⟩, ⟨4, [59], 15⟩]
def ex3 : List Tok := [⟨3, [108, 101, 116], 0⟩, ⟨1, [97], 5⟩, ⟨4, [61], 7⟩, ⟨1, [98], 9⟩, ⟨4, [91], 11⟩, ⟨2, [49], 13⟩, ⟨4, [93], 15⟩, ⟨4, [59], 17⟩]
def ex4 : List Tok := [⟨1, [102], 0⟩, ⟨4, [40], 2⟩, ⟨1, [97], 4⟩, ⟨4, [91], 6⟩, ⟨2, [49], 8⟩, ⟨4, [93], 10⟩, ⟨4, [41], 12⟩]
theorem ex1_read : Mist.read [108, 101, 116, 32, 97, 49, 32, 61, 32, 49, 48, 46, 46, 45, 50, 59, 32, 35, 32, 115, 111] = (ex1, 0, 0) := by decide +kernel
theorem ex2_read : Mist.read [120, 32, 61, 32, 49, 50, 51, 52, 53] = ([], 4, 4) := by decide +kernel
theorem ex3_read : Mist.read [108, 101, 116, 32, 32, 97, 32, 61, 32, 98, 32, 91, 32, 49, 32, 93, 32, 59] = (ex3, 0, 0) := by decide +kernel
theorem ex4_read : Mist.read [102, 32, 40, 32, 97, 32, 91, 32, 49, 32, 93, 32, 41] = (ex4, 0, 0) := by decide +kernel
theorem ex_glued1 : gluedOf [46] [46, 46] = (true, 0) := by decide +kernel
theorem ex_glued2 : gluedOf [49] [97] = (false, 0) := by decide +kernel
theorem ex3_check : checkToks ex3 = 0 := by decide +kernel
theorem ex3_text : textOf ex3 = [108, 101, 116, 32, 97, 61, 98, 91, 49, 93, 59] := by decide +kernel
theorem ex4_match : matchOf ex4 1 = (6, 0) := by decide +kernel
theorem ex_name1 : isName [97, 98, 99, 100, 101, 102, 103, 104, 105, 106, 107, 108] = true := by decide +kernel
theorem ex_name2 : isName [97, 98, 99, 100, 101, 102, 103, 104, 105, 106, 107, 108, 109] = false := by decide +kernel
theorem ex3_ok : TokOk ex3 := by
  have : ∀ t ∈ ex3, t.text.length ≤ 100000000 ∧ (-9223372036854775808 ≤ t.at_ ∧ t.at_ ≤ 9223372036854775807) := by decide +kernel
  exact this
theorem ex4_ok : TokOk ex4 := by
  have : ∀ t ∈ ex4, t.text.length ≤ 100000000 ∧ (-9223372036854775808 ≤ t.at_ ∧ t.at_ ≤ 9223372036854775807) := by decide +kernel
  exact this
theorem k_read {l : Bs} {t : List Tok} {a b : Nat} (h : Mist.read l = (t, a, b)) (hl : l.length ≤ 100000000) (w : World) (hE : Env w) :
    Calls Tryd.prog 10 #[.string (ofL l)] w fun e w' => ∃ A c, e = .returned (.tuple #[.slice A t.length c, .int .i64 a, .int .i64 b]) ∧ Toks w' (.slice A t.length c) t ∧ Below w.heap.size w w' := by
  refine (read_any l w hE hl).mono ?_
  rintro e w' ⟨v, rfl, ht, hb⟩
  rw [h] at ht ⊢
  obtain ⟨A, c, rfl, h2⟩ := id ht
  exact ⟨A, c, rfl, ht, hb⟩
set_option maxRecDepth 100000 in
set_option maxHeartbeats 4000000 in
theorem known_any (w : World) (hE : Env w) :
    Calls Tryd.prog 7 #[] w fun e w' => e = .returned (.bool true) ∧ Below w.heap.size w w' := by
  have HE := Lib.hid hE; clear hE
  go_enter Tryd.func7, Tryd.ntmps7
  go_wp2_with fail
  refine (k_read ex1_read (by decide) _ HE.out).mono ?_
  rintro e w1 ⟨A1, c1, rfl, ht1, hb1⟩
  obtain ⟨b1, o1, rfl, hr1⟩ := ht1.rowA (by decide)
  have HR1 := Lib.hid hr1; clear hr1 ht1
  have HE1 := Lib.hid (HE.out.below hb1)
  have HB1 := Lib.hid hb1; clear hb1
  go_wp2_with fail
  refine (k_read ex2_read (by decide) _ HE1.out).mono ?_
  rintro e w2 ⟨A2, c2, rfl, ht2, hb2⟩
  have HE2 := Lib.hid (HE1.out.below hb2)
  have HR2 := Lib.hid (HR1.out.below hb2)
  have HB2 := Lib.hid (HB1.out.trans (hb2.mono HB1.out.size)); clear hb2 ht2
  go_wp2_with fail
  refine (glued_any [46] [46, 46] _ HE2.out (by decide)).mono ?_
  rw [ex_glued1]
  rintro e w3 ⟨rfl, hb3⟩
  have HE3 := Lib.hid (HE2.out.below hb3)
  have HR3 := Lib.hid (HR2.out.below hb3)
  have HB3 := Lib.hid (HB2.out.trans (hb3.mono HB2.out.size)); clear hb3
  go_wp2_with fail
  refine (glued_any [49] [97] _ HE3.out (by decide)).mono ?_
  rw [ex_glued2]
  rintro e w4 ⟨rfl, hb4⟩
  have HE4 := Lib.hid (HE3.out.below hb4)
  have HR4 := Lib.hid (HR3.out.below hb4)
  have HB4 := Lib.hid (HB3.out.trans (hb4.mono HB3.out.size)); clear hb4
  go_wp2_with fail
  refine (k_read ex3_read (by decide) _ HE4.out).mono ?_
  rintro e w5 ⟨A5, c5, rfl, ht5, hb5⟩
  have HT5 := Lib.hid ht5; clear ht5
  have HE5 := Lib.hid (HE4.out.below hb5)
  have HR5 := Lib.hid (HR4.out.below hb5)
  have HB5 := Lib.hid (HB4.out.trans (hb5.mono HB4.out.size)); clear hb5
  go_wp2_with fail
  refine (text_any _ ex3 _ HE5.out HT5.out ex3_ok).mono ?_
  unfold TextPost
  rw [ex3_text, ex3_check]
  rintro e w6 ⟨rfl, hb6⟩
  have HE6 := Lib.hid (HE5.out.below hb6)
  have HR6 := Lib.hid (HR5.out.below hb6)
  have HB6 := Lib.hid (HB5.out.trans (hb6.mono HB5.out.size)); clear hb6
  go_wp2_with fail
  refine (k_read ex4_read (by decide) _ HE6.out).mono ?_
  rintro e w7 ⟨A7, c7, rfl, ht7, hb7⟩
  have HT7 := Lib.hid ht7; clear ht7
  have HE7 := Lib.hid (HE6.out.below hb7)
  have HR7 := Lib.hid (HR6.out.below hb7)
  have HB7 := Lib.hid (HB6.out.trans (hb7.mono HB6.out.size)); clear hb7
  go_wp2_with fail
  refine (match_any _ ex4 1 _ HE7.out HT7.out ex4_ok).mono ?_
  unfold MatchPost
  rw [ex4_match]
  rintro e w8 ⟨rfl, hb8⟩
  have HE8 := Lib.hid (HE7.out.below hb8)
  have hr8 := HR7.out.below hb8
  have HB8 := Lib.hid (HB7.out.trans (hb8.mono HB7.out.size)); clear hb8
  have k1 : w8.cell? ⟨b1, o1 + 3, none⟩ = some (.int .u8 1) := hr8.kind 1 (by decide)
  have x1 : w8.cell? ⟨b1, o1 + 3 + 1, none⟩ = some (.string (ofL [97, 49])) := hr8.text 1 (by decide)
  have a1 : w8.cell? ⟨b1, o1 + 3 + 2, none⟩ = some (.int .i64 4) := hr8.at_ 1 (by decide)
  have k4 : w8.cell? ⟨b1, o1 + 12, none⟩ = some (.int .u8 4) := hr8.kind 4 (by decide)
  have x4 : w8.cell? ⟨b1, o1 + 12 + 1, none⟩ = some (.string (ofL [46, 46])) := hr8.text 4 (by decide)
  have a4 : w8.cell? ⟨b1, o1 + 12 + 2, none⟩ = some (.int .i64 11) := hr8.at_ 4 (by decide)
  clear hr8
  go_wp2_with fail
  refine (isName_any [97, 98, 99, 100, 101, 102, 103, 104, 105, 106, 107, 108] _ HE8.out (by decide)).mono ?_
  rw [ex_name1]
  rintro e w9 ⟨rfl, hb9⟩
  have HE9 := Lib.hid (HE8.out.below hb9)
  have HB9 := Lib.hid (HB8.out.trans (hb9.mono HB8.out.size)); clear hb9
  go_wp2_with fail
  refine (isName_any [97, 98, 99, 100, 101, 102, 103, 104, 105, 106, 107, 108, 109] _ HE9.out (by decide)).mono ?_
  rw [ex_name2]
  rintro e w10 ⟨rfl, hb10⟩
  have HB10 := Lib.hid (HB9.out.trans (hb10.mono HB9.out.size)); clear hb10
  go_wp2_with fail
  go_ret
  exact ⟨rfl, HB10.out⟩
end Go.Proofs.YtpomgledekkjjaaDoor
