/-
  THE LAW TokenReads, walked.
-/
import Derived.Test.YtkckmnipidpdeaaDoorWalkS
namespace Go.Proofs.YtkckmnipidpdeaaDoor
open Go.RowKit Mist
attribute [local go_sem] ofL_extract ofL_size ofL_get ofL_bytes ofL_append
theorem readFrom_len (f : Nat) (l : Bs) (a : Nat) (acc : List Tok) (h : acc.length ≤ 800) : (readFrom f l a acc).1.length ≤ 800 := by
  induction f generalizing a acc with
  | zero => exact h
  | succ f ih =>
    rw [readFrom]
    split
    · exact h
    · split
      · simp
      · split
        · simp
        · exact ih _ _ (by simp; omega)
theorem read_len (l : Bs) : (Mist.read l).1.length ≤ 800 := by
  unfold Mist.read
  split
  · simp
  · exact readFrom_len _ _ _ _ (by simp)
set_option maxRecDepth 100000 in
set_option maxHeartbeats 4000000 in
theorem reads_law (l : Bs) (w : World) (hE : Env w) :
    Calls Tryd.prog 3 #[.string (ofL l)] w fun e w' => e = .returned (.bool true) ∧ Below w.heap.size w w' := by
  have HE := Lib.hid hE; clear hE
  by_cases hl : 5000 < l.length
  · go_enter Tryd.func3, Tryd.ntmps3
    go_wp2_with (go_at_call 14; refine (known_any _ HE.out).mono ?_; rintro e w1 ⟨rfl, hb1⟩)
    go_ret
    exact ⟨rfl, hb1⟩
  · have hl2 : l.length ≤ 5000 := by omega
    go_enter Tryd.func3, Tryd.ntmps3
    go_wp2_with fail
    refine (read_any l _ HE.out (by omega)).mono ?_
    rintro e w1 ⟨v1, rfl, ht1, hb1⟩
    have HT1 := Lib.hid ht1; clear ht1
    have HE1 := Lib.hid (HE.out.below hb1)
    have HB1 := Lib.hid hb1; clear hb1
    go_wp2_with fail
    refine (rread_any l _ (by omega)).mono ?_
    rintro e w2 ⟨v2, rfl, ht2, hb2⟩
    have HT2 := Lib.hid ht2; clear ht2
    have HT1 := Lib.hid (HT1.out.below hb2)
    have HE2 := Lib.hid (HE1.out.below hb2)
    have HB2 := Lib.hid (HB1.out.trans (hb2.mono HB1.out.size)); clear hb2
    go_wp2_with fail
    refine (equal_any v1 v2 _ _ HT1.out HT2.out (by have := read_len l; omega)).mono ?_
    rintro e w3 ⟨rfl, hb3⟩
    have HE3 := Lib.hid (HE2.out.below hb3)
    have HB3 := Lib.hid (HB2.out.trans (hb3.mono HB2.out.size)); clear hb3
    go_wp2_with fail
    refine (known_any _ HE3.out).mono ?_
    rintro e w4 ⟨rfl, hb4⟩
    have HB4 := Lib.hid (HB3.out.trans (hb4.mono HB3.out.size)); clear hb4
    go_wp2_with fail
    go_ret
    exact ⟨rfl, HB4.out⟩
end Go.Proofs.YtkckmnipidpdeaaDoor
