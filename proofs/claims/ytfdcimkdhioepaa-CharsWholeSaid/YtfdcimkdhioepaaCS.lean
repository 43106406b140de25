/-
  WALKS of chapter 1: mistref01.Moved.
-/
import Derived.Test.YtfdcimkdhioepaaCR
namespace Go.Proofs.Ytfdcimkdhioepaa
open Go.RowKit Go.Shelf Mist
attribute [local go_sem] ofL_extract ofL_size ofL_get ofL_bytes ofL_append
theorem splice_err (s put : Bs) (a m : Int) : (spliceOf s a m put).2 = patchErr s a m put := by
  unfold spliceOf
  split
  · rfl
  · rename_i h; simp at h; rw [h]
def MvPost (s put : Bs) (a m p : Int) (w : World) (e : Ending) (w' : World) : Prop := e = .returned (.tuple #[.int .i64 (movedOf s a m put p).1, .int .i64 (movedOf s a m put p).2]) ∧ Below w.heap.size w w'
set_option maxRecDepth 100000 in
set_option maxHeartbeats 3200000 in
theorem rmoved_any (s put : Bs) (a m p : Int) (w : World) (hs : s.length ≤ 100000000) (hp : put.length ≤ 100000000) :
    Calls Try.prog 33 #[.string (ofL s), .int .i64 a, .int .i64 m, .string (ofL put), .int .i64 p] w (MvPost s put a m p w) := by
  have hse := splice_err s put a m
  obtain ⟨k, hk⟩ : ∃ k, k = (spliceOf s a m put).2 := ⟨_, rfl⟩
  rw [← hk] at hse
  by_cases hc : k = 0
  case neg =>
    have hc' : ((k : Int) != 0) = true := by simp; omega
    have HC := Lib.hid (show movedOf s a m put p = (0, k) by unfold movedOf; rw [← hse, if_pos hc]); clear hc
    have HK := Lib.hid hk; clear hk hse
    go_enter Try.func33, Try.ntmps33
    go_wp2_with fail
    refine (rsplice_any s put a m _ hs hp).mono ?_
    rintro e w1 ⟨rfl, hb1⟩
    rw [← HK.out]
    go_wp2_with fail
    go_ret2
    exact ⟨moved_of HC.out rfl rfl, hb1⟩
  have hpe : patchErr s a m put = 0 := by rw [← hse, hc]
  obtain ⟨⟨h1, h2⟩, h3, h4⟩ := patch_ok hpe
  have hk0 : (spliceOf s a m put).2 = 0 := by rw [← hk, hc]
  clear hse hc hk
  have HK := Lib.hid hk0; clear hk0
  have HPE := Lib.hid (show ¬ patchErr s a m put ≠ 0 by simpa using hpe); clear hpe
  rcases (by omega : p < 0 ∨ 0 ≤ p) with h5 | h5
  · have HC := Lib.hid (show movedOf s a m put p = (0, 3) by unfold movedOf; rw [if_neg HPE.out, if_pos (by omega)])
    go_enter Try.func33, Try.ntmps33
    go_wp2_with fail
    refine (rsplice_any s put a m _ hs hp).mono ?_
    rintro e w1 ⟨rfl, hb1⟩
    rw [HK.out]
    go_wp2_with fail
    go_ret2
    exact ⟨moved_of HC.out rfl rfl, hb1⟩
  rcases (by omega : (s.length : Int) < p ∨ p ≤ (s.length : Int)) with h6 | h6
  · have HC := Lib.hid (show movedOf s a m put p = (0, 3) by unfold movedOf; rw [if_neg HPE.out, if_pos (by omega)])
    go_enter Try.func33, Try.ntmps33
    go_wp2_with fail
    refine (rsplice_any s put a m _ hs hp).mono ?_
    rintro e w1 ⟨rfl, hb1⟩
    rw [HK.out]
    go_wp2_with fail
    go_ret2
    exact ⟨moved_of HC.out rfl rfl, hb1⟩
  by_cases h7 : p ≤ a
  · have HC := Lib.hid (show movedOf s a m put p = (p, 0) by unfold movedOf; rw [if_neg HPE.out, if_neg (by omega), if_pos h7])
    go_enter Try.func33, Try.ntmps33
    go_wp2_with fail
    refine (rsplice_any s put a m _ hs hp).mono ?_
    rintro e w1 ⟨rfl, hb1⟩
    rw [HK.out]
    go_wp2_with fail
    go_ret2
    exact ⟨moved_of HC.out rfl rfl, hb1⟩
  by_cases h8 : a + m ≤ p
  · have HC := Lib.hid (show movedOf s a m put p = (p + ((put.length : Int) - m), 0) by unfold movedOf; rw [if_neg HPE.out, if_neg (by omega), if_neg h7, if_pos h8])
    go_enter Try.func33, Try.ntmps33
    go_wp2_with fail
    refine (rsplice_any s put a m _ hs hp).mono ?_
    rintro e w1 ⟨rfl, hb1⟩
    rw [HK.out]
    go_wp2_with fail
    go_ret2
    exact ⟨moved_of HC.out (by simp only; omega) rfl, hb1⟩
  · have HC := Lib.hid (show movedOf s a m put p = (a + (put.length : Int), 0) by unfold movedOf; rw [if_neg HPE.out, if_neg (by omega), if_neg h7, if_neg h8])
    go_enter Try.func33, Try.ntmps33
    go_wp2_with fail
    refine (rsplice_any s put a m _ hs hp).mono ?_
    rintro e w1 ⟨rfl, hb1⟩
    rw [HK.out]
    go_wp2_with fail
    go_ret2
    exact ⟨moved_of HC.out rfl rfl, hb1⟩
end Go.Proofs.Ytfdcimkdhioepaa
