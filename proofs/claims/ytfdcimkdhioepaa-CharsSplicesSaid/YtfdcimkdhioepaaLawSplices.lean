/-
  THE LAW CharsSplices, walked: for any text and any edit it answers true and leaves the old memory as it was.
-/
import Derived.Test.YtfdcimkdhioepaaCS
namespace Go.Proofs.Ytfdcimkdhioepaa
open Go.RowKit Go.Shelf Mist
attribute [local go_sem] ofL_extract ofL_size ofL_get ofL_bytes ofL_append
set_option maxRecDepth 100000 in
set_option maxHeartbeats 4000000 in
theorem splices_law (s : Bs) (a m p : Int) (t : Bs) (w : World) (hE : CEnv w) :
    Calls Try.prog 7 #[.string (ofL s), .agg #[.int .i64 a, .int .i64 m, .int .i64 p, .string (ofL t)]] w fun e w' => e = .returned (.bool true) ∧ Below w.heap.size w w' := by
  have HE := Lib.hid hE; clear hE
  have bX := Blk.new w 41 #[.int .i64 a, .int .i64 m, .int .i64 p, .string (ofL t)]
  have hw0 : Below w.heap.size w (w.alloc (.cells #[.int .i64 a, .int .i64 m, .int .i64 p, .string (ofL t)] 41)) := (Below.refl _ _).alloc (Nat.le_refl _) _
  have hz0 : w.heap.size < (w.alloc (.cells #[.int .i64 a, .int .i64 m, .int .i64 p, .string (ofL t)] 41)).heap.size := by simp
  by_cases hl : 5000 < s.length
  · go_enter Try.func7, Try.ntmps7
    go_wp2_with (go_at_call 14; refine (known_any _ (HE.out.below hw0)).mono ?_; rintro e w1 ⟨rfl, hb1⟩)
    go_ret
    exact ⟨rfl, hw0.trans (hb1.mono hw0.size)⟩
  by_cases ht : 5000 < t.length
  · go_enter Try.func7, Try.ntmps7
    go_wp2_with (go_at_call 14; refine (known_any _ (HE.out.below hw0)).mono ?_; rintro e w1 ⟨rfl, hb1⟩)
    go_ret
    exact ⟨rfl, hw0.trans (hb1.mono hw0.size)⟩
  have hl2 : s.length ≤ 5000 := by omega
  have ht2 : t.length ≤ 5000 := by omega
  go_enter Try.func7, Try.ntmps7
  go_wp2_with fail
  refine (splice_any s t a m _ (by omega) (by omega)).mono ?_
  rintro e w1 ⟨rfl, hb1⟩
  have bX1 := bX.below hb1 hz0
  have hz1 := Nat.lt_of_lt_of_le hz0 hb1.size
  have HB1 := Lib.hid (hw0.trans (hb1.mono hw0.size)); clear hb1 hw0
  have c0 : w1.cell? ⟨w.heap.size, 0, none⟩ = some (.int .i64 a) := bX1.cell 0
  have c1 : w1.cell? ⟨w.heap.size, 1, none⟩ = some (.int .i64 m) := bX1.cell 1
  have c2 : w1.cell? ⟨w.heap.size, 2, none⟩ = some (.int .i64 p) := bX1.cell 2
  have c3 : w1.cell? ⟨w.heap.size, 3, none⟩ = some (.string (ofL t)) := bX1.cell 3
  go_wp2_with fail
  refine (moved_any s t a m p _ (by omega) (by omega)).mono ?_
  rintro e w2 ⟨rfl, hb2⟩
  have bX2 := bX1.below hb2 hz1
  have hz2 := Nat.lt_of_lt_of_le hz1 hb2.size
  have HB2 := Lib.hid (HB1.out.trans (hb2.mono HB1.out.size)); clear hb2 c0 c1 c2 c3
  have c0 : w2.cell? ⟨w.heap.size, 0, none⟩ = some (.int .i64 a) := bX2.cell 0
  have c1 : w2.cell? ⟨w.heap.size, 1, none⟩ = some (.int .i64 m) := bX2.cell 1
  have c3 : w2.cell? ⟨w.heap.size, 3, none⟩ = some (.string (ofL t)) := bX2.cell 3
  go_wp2_with fail
  refine (rsplice_any s t a m _ (by omega) (by omega)).mono ?_
  rintro e w3 ⟨rfl, hb3⟩
  have bX3 := bX2.below hb3 hz2
  have hz3 := Nat.lt_of_lt_of_le hz2 hb3.size
  have HB3 := Lib.hid (HB2.out.trans (hb3.mono HB2.out.size)); clear hb3 c0 c1 c3
  have c0 : w3.cell? ⟨w.heap.size, 0, none⟩ = some (.int .i64 a) := bX3.cell 0
  have c1 : w3.cell? ⟨w.heap.size, 1, none⟩ = some (.int .i64 m) := bX3.cell 1
  have c2 : w3.cell? ⟨w.heap.size, 2, none⟩ = some (.int .i64 p) := bX3.cell 2
  have c3 : w3.cell? ⟨w.heap.size, 3, none⟩ = some (.string (ofL t)) := bX3.cell 3
  go_wp2_with fail
  refine (rmoved_any s t a m p _ (by omega) (by omega)).mono ?_
  rintro e w4 ⟨rfl, hb4⟩
  have HB4 := Lib.hid (HB3.out.trans (hb4.mono HB3.out.size)); clear hb4 c0 c1 c2 c3
  go_wp2_with fail
  refine (known_any _ (HE.out.below HB4.out)).mono ?_
  rintro e wz ⟨rfl, hbz⟩
  have HBZ := Lib.hid (HB4.out.trans (hbz.mono HB4.out.size)); clear hbz
  go_wp2_with fail
  go_ret
  exact ⟨rfl, HBZ.out⟩
end Go.Proofs.Ytfdcimkdhioepaa
