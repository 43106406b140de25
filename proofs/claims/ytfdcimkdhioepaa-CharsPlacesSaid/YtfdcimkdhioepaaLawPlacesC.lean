/-
  THE LAW CharsPlaces, walked: for any text, offset and place it answers true and leaves the old memory as it was.
-/
import Derived.Test.YtfdcimkdhioepaaCU
namespace Go.Proofs.Ytfdcimkdhioepaa
open Go.RowKit Go.Shelf Mist
attribute [local go_sem] ofL_extract ofL_size ofL_get ofL_bytes ofL_append
theorem placeV (s : Bs) (a x y : Int) (k : Nat) (w : World) (hl : s.length ≤ 100000000) (h : placeOf s a = ((x, y), k)) :
    Calls Try.prog 21 #[.string (ofL s), .int .i64 a] w fun e w' => e = .returned (.tuple #[.agg #[.int .i64 x, .int .i64 y], .int .i64 k]) ∧ Below w.heap.size w w' := by
  refine (place_any s a w hl).mono ?_
  rintro e w' ⟨rfl, hb⟩
  rw [h]; exact ⟨rfl, hb⟩
theorem rplaceV (s : Bs) (a x y : Int) (k : Nat) (w : World) (hl : s.length ≤ 100000000) (h : placeOf s a = ((x, y), k)) :
    Calls Try.prog 23 #[.string (ofL s), .int .i64 a] w fun e w' => e = .returned (.tuple #[.agg #[.int .i64 x, .int .i64 y], .int .i64 k]) ∧ Below w.heap.size w w' := by
  refine (rplace_any s a w hl).mono ?_
  rintro e w' ⟨rfl, hb⟩
  rw [h]; exact ⟨rfl, hb⟩
set_option maxRecDepth 100000 in
set_option maxHeartbeats 4000000 in
theorem placesc_law (s : Bs) (a line col : Int) (w : World) (hE : CEnv w) :
    Calls Try.prog 4 #[.string (ofL s), .int .i64 a, .agg #[.int .i64 line, .int .i64 col]] w fun e w' => e = .returned (.bool true) ∧ Below w.heap.size w w' := by
  have HE := Lib.hid hE; clear hE
  have bX := Blk.new w 28 #[.int .i64 line, .int .i64 col]
  have hw0 : Below w.heap.size w (w.alloc (.cells #[.int .i64 line, .int .i64 col] 28)) := (Below.refl _ _).alloc (Nat.le_refl _) _
  have hz0 : w.heap.size < (w.alloc (.cells #[.int .i64 line, .int .i64 col] 28)).heap.size := by simp
  by_cases hl : 5000 < s.length
  · go_enter Try.func4, Try.ntmps4
    go_wp2_with (go_at_call 14; refine (known_any _ (HE.out.below hw0)).mono ?_; rintro e w1 ⟨rfl, hb1⟩)
    go_ret
    exact ⟨rfl, hw0.trans (hb1.mono hw0.size)⟩
  have hl2 : s.length ≤ 5000 := by omega
  obtain ⟨x, y, k, hP⟩ : ∃ x y k, placeOf s a = ((x, y), k) := ⟨_, _, _, rfl⟩
  have HP := Lib.hid hP; clear hP
  go_enter Try.func4, Try.ntmps4
  go_wp2_with fail
  refine (placeV s a x y k _ (by omega) HP.out).mono ?_
  rintro e w1 ⟨rfl, hb1⟩
  have bX1 := (bX.below hb1 hz0).alloc (.cells #[.int .i64 x, .int .i64 y] 28)
  have bY1 := Blk.new w1 28 #[.int .i64 x, .int .i64 y]
  have hz1 := Nat.lt_of_lt_of_le hz0 hb1.size
  have HB0 := Lib.hid (hw0.trans (hb1.mono hw0.size)); clear hb1 hw0 bX
  have HB1 := Lib.hid (HB0.out.alloc HB0.out.size (.cells #[.int .i64 x, .int .i64 y] 28))
  have hy1 : w1.heap.size < (w1.alloc (.cells #[.int .i64 x, .int .i64 y] 28)).heap.size := by simp
  have hx1 : w.heap.size < (w1.alloc (.cells #[.int .i64 x, .int .i64 y] 28)).heap.size := by simp; omega
  have c0 : (w1.alloc (.cells #[.int .i64 x, .int .i64 y] 28)).cell? ⟨w.heap.size, 0, none⟩ = some (.int .i64 line) := bX1.cell 0
  have c1 : (w1.alloc (.cells #[.int .i64 x, .int .i64 y] 28)).cell? ⟨w.heap.size, 1, none⟩ = some (.int .i64 col) := bX1.cell 1
  go_wp2_with fail
  refine (offsetP_any s line col _ (by omega)).mono ?_
  rintro e w2 ⟨rfl, hb2⟩
  have bX2 := bX1.below hb2 hx1
  have bY2 := bY1.below hb2 hy1
  have hx2 := Nat.lt_of_lt_of_le hx1 hb2.size
  have hy2 := Nat.lt_of_lt_of_le hy1 hb2.size
  have HB2 := Lib.hid (HB1.out.trans (hb2.mono HB1.out.size)); clear hb2 c0 c1 bX1 bY1
  go_wp2_with fail
  refine (rplaceV s a x y k _ (by omega) HP.out).mono ?_
  rintro e w3 ⟨rfl, hb3⟩
  have bX3 := (bX2.below hb3 hx2).alloc (.cells #[.int .i64 x, .int .i64 y] 28)
  have bY3 := (bY2.below hb3 hy2).alloc (.cells #[.int .i64 x, .int .i64 y] 28)
  have bZ3 := Blk.new w3 28 #[.int .i64 x, .int .i64 y]
  have HB3 := Lib.hid (HB2.out.trans (hb3.mono HB2.out.size))
  have hx3 : w.heap.size < (w3.alloc (.cells #[.int .i64 x, .int .i64 y] 28)).heap.size := by have := hb3.size; simp; omega
  have hy3 : w1.heap.size < (w3.alloc (.cells #[.int .i64 x, .int .i64 y] 28)).heap.size := by have := hb3.size; simp; omega
  have hz3 : w3.heap.size < (w3.alloc (.cells #[.int .i64 x, .int .i64 y] 28)).heap.size := by simp
  have HB4 := Lib.hid (HB3.out.alloc HB3.out.size (.cells #[.int .i64 x, .int .i64 y] 28)); clear hb3 bX2 bY2
  have c0 : (w3.alloc (.cells #[.int .i64 x, .int .i64 y] 28)).cell? ⟨w.heap.size, 0, none⟩ = some (.int .i64 line) := bX3.cell 0
  have c1 : (w3.alloc (.cells #[.int .i64 x, .int .i64 y] 28)).cell? ⟨w.heap.size, 1, none⟩ = some (.int .i64 col) := bX3.cell 1
  go_wp2_with fail
  refine (roffset_any s line col _ (by omega)).mono ?_
  rintro e w5 ⟨rfl, hb5⟩
  have bY5 := bY3.below hb5 hy3
  have bZ5 := bZ3.below hb5 hz3
  have HB5 := Lib.hid (HB4.out.trans (hb5.mono HB4.out.size)); clear hb5 c0 c1 bX3 bY3 bZ3
  have y0 : w5.cell? ⟨w1.heap.size, 0, none⟩ = some (.int .i64 x) := bY5.cell 0
  have y1 : w5.cell? ⟨w1.heap.size, 1, none⟩ = some (.int .i64 y) := bY5.cell 1
  have z0 : w5.cell? ⟨w3.heap.size, 0, none⟩ = some (.int .i64 x) := bZ5.cell 0
  have z1 : w5.cell? ⟨w3.heap.size, 1, none⟩ = some (.int .i64 y) := bZ5.cell 1
  go_wp2_with fail
  refine (known_any _ (HE.out.below HB5.out)).mono ?_
  rintro e wz ⟨rfl, hbz⟩
  have HBZ := Lib.hid (HB5.out.trans (hbz.mono HB5.out.size)); clear hbz
  go_wp2_with fail
  go_ret
  exact ⟨rfl, HBZ.out⟩
end Go.Proofs.Ytfdcimkdhioepaa
