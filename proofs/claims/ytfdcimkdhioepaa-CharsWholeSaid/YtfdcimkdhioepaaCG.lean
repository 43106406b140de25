/-
  WALKS of chapter 1: patch.size, patch.check, chars.Splice, Moved.
-/
import Derived.Test.YtfdcimkdhioepaaCF
namespace Go.Proofs.Ytfdcimkdhioepaa
open Go.RowKit Go.Shelf Mist
attribute [local go_sem] ofL_extract ofL_size ofL_get ofL_bytes ofL_append
set_option maxHeartbeats 800000 in
theorem size_any (a many : Int) (put : Bs) (w : World) (hp : put.length ≤ 100000000) (h0 : 0 ≤ many) (hm : many ≤ 9223372036854775807) :
    Calls Try.prog 58 #[.agg #[.int .i64 a, .int .i64 many, .string (ofL put)]] w fun e w' => e = .returned (.int .i64 ((put.length : Int) - many)) ∧ w' = w.alloc (.cells #[.int .i64 a, .int .i64 many, .string (ofL put)] 86) := by
  go_enter Try.func58, Try.ntmps58
  go_wp2
  go_ret
  exact ⟨rfl, rfl⟩
theorem cells_new_at (W : World) {g : Nat} (h : W.heap.size = g) (cs : Array Value) (t : TypeId) (i : Nat) : (W.alloc (.cells cs t)).cell? ⟨g, i, none⟩ = cs[i]? := by
  subst h; exact (Blk.new W t cs).cell i
theorem patchErr_of {s put : Bs} {a many : Int} {k : Nat} {x : Int} (h : patchErr s a many put = k) (hx : x = k) : Ending.returned (.int .i64 x) = .returned (.int .i64 (patchErr s a many put)) := by rw [h, hx]
set_option maxHeartbeats 1600000 in
theorem pcheck_any (s put : Bs) (a many : Int) (w : World) (hs : s.length ≤ 100000000) (hp : put.length ≤ 100000000) :
    Calls Try.prog 57 #[.agg #[.int .i64 a, .int .i64 many, .string (ofL put)], .string (ofL s)] w fun e w' => e = .returned (.int .i64 (patchErr s a many put)) ∧ Below w.heap.size w w' := by
  by_cases hc : err2 s put = 0
  case neg =>
    have hc' : ((err2 s put : Int) != 0) = true := by simp; omega
    have HC := Lib.hid (show patchErr s a many put = err2 s put by unfold patchErr; rw [if_pos hc]); clear hc
    go_enter Try.func57, Try.ntmps57
    go_wp2_with (go_at_call 41; refine (chk2_any s put _ _ _ (cells_new_at _ (by simp) _ _ 0) (cells_new_at _ (by simp) _ _ 1) hs hp).mono ?_; rintro e w' ⟨rfl, rfl⟩)
    go_ret
    exact ⟨patchErr_of HC.out rfl, ((Below.refl _ _).alloc (Nat.le_refl _) _).alloc (by simp) _⟩
  have hc' : ((err2 s put : Int) != 0) = false := by simp [hc]
  by_cases h1 : 0 ≤ a ∧ a ≤ (s.length : Int)
  case neg =>
    have HC := Lib.hid (show patchErr s a many put = 3 by unfold patchErr; rw [if_neg (by simpa using hc), if_neg (fun h => h1 h.1)]); clear hc
    go_enter Try.func57, Try.ntmps57
    go_wp2_with (first
      | (go_at_call 41; refine (chk2_any s put _ _ _ (cells_new_at _ (by simp) _ _ 0) (cells_new_at _ (by simp) _ _ 1) hs hp).mono ?_; rintro e w' ⟨rfl, rfl⟩)
      | (go_at_call 48; refine (withinw _ _ _ false _ (by simpa using h1)).mono ?_; rintro e w' ⟨rfl, rfl⟩))
    go_ret
    exact ⟨patchErr_of HC.out rfl, ((Below.refl _ _).alloc (Nat.le_refl _) _).alloc (by simp) _⟩
  by_cases h2 : 0 ≤ many ∧ many ≤ (s.length : Int) - a
  case neg =>
    have HC := Lib.hid (show patchErr s a many put = 3 by unfold patchErr; rw [if_neg (by simpa using hc), if_neg (fun h => h2 h.2)]); clear hc
    go_enter Try.func57, Try.ntmps57
    go_wp2_with (go_at_call 41; refine (chk2_any s put _ _ _ (cells_new_at _ (by simp) _ _ 0) (cells_new_at _ (by simp) _ _ 1) hs hp).mono ?_; rintro e w' ⟨rfl, rfl⟩)
    refine (withinw a _ _ true _ (by simpa using h1)).mono ?_
    rintro e w' ⟨rfl, rfl⟩
    go_wp2_with fail
    refine (withinw many _ _ false _ (by simpa using h2)).mono ?_
    rintro e w' ⟨rfl, rfl⟩
    go_wp2_with fail
    go_ret
    exact ⟨patchErr_of HC.out rfl, ((Below.refl _ _).alloc (Nat.le_refl _) _).alloc (by simp) _⟩
  by_cases h3 : 2000 < (s.length : Int) + ((put.length : Int) - many)
  · have HC := Lib.hid (show patchErr s a many put = 5 by unfold patchErr; rw [if_neg (by simpa using hc), if_pos ⟨h1, h2⟩, if_pos h3]); clear hc
    go_enter Try.func57, Try.ntmps57
    go_wp2_with (go_at_call 41; refine (chk2_any s put _ _ _ (cells_new_at _ (by simp) _ _ 0) (cells_new_at _ (by simp) _ _ 1) hs hp).mono ?_; rintro e w' ⟨rfl, rfl⟩)
    refine (withinw a _ _ true _ (by simpa using h1)).mono ?_
    rintro e w' ⟨rfl, rfl⟩
    go_wp2_with fail
    refine (withinw many _ _ true _ (by simpa using h2)).mono ?_
    rintro e w' ⟨rfl, rfl⟩
    go_wp2_with fail
    refine (size_any a many put _ hp h2.1 (by omega)).mono ?_
    rintro e w' ⟨rfl, rfl⟩
    go_wp2_with fail
    go_ret
    exact ⟨patchErr_of HC.out rfl, (((Below.refl _ _).alloc (Nat.le_refl _) _).alloc (by simp) _).alloc (by simp; omega) _⟩
  · have HC := Lib.hid (show patchErr s a many put = 0 by unfold patchErr; rw [if_neg (by simpa using hc), if_pos ⟨h1, h2⟩, if_neg h3]); clear hc
    go_enter Try.func57, Try.ntmps57
    go_wp2_with (go_at_call 41; refine (chk2_any s put _ _ _ (cells_new_at _ (by simp) _ _ 0) (cells_new_at _ (by simp) _ _ 1) hs hp).mono ?_; rintro e w' ⟨rfl, rfl⟩)
    refine (withinw a _ _ true _ (by simpa using h1)).mono ?_
    rintro e w' ⟨rfl, rfl⟩
    go_wp2_with fail
    refine (withinw many _ _ true _ (by simpa using h2)).mono ?_
    rintro e w' ⟨rfl, rfl⟩
    go_wp2_with fail
    refine (size_any a many put _ hp h2.1 (by omega)).mono ?_
    rintro e w' ⟨rfl, rfl⟩
    go_wp2_with fail
    go_ret
    exact ⟨patchErr_of HC.out rfl, (((Below.refl _ _).alloc (Nat.le_refl _) _).alloc (by simp) _).alloc (by simp; omega) _⟩
theorem patch_ok {s put : Bs} {a many : Int} (h : patchErr s a many put = 0) : (0 ≤ a ∧ a ≤ (s.length : Int)) ∧ (0 ≤ many ∧ many ≤ (s.length : Int) - a) := by
  unfold patchErr at h
  split at h
  · contradiction
  · split at h
    · assumption
    · cases h
theorem str_of {a b : Bs} {x y : Int} (h : a = b) (k : x = y) : Ending.returned (.tuple #[.string (ofL a), .int .i64 x]) = .returned (.tuple #[.string (ofL b), .int .i64 y]) := by rw [h, k]
set_option maxHeartbeats 1600000 in
theorem splice_any (s put : Bs) (a many : Int) (w : World) (hs : s.length ≤ 100000000) (hp : put.length ≤ 100000000) :
    Calls Try.prog 30 #[.string (ofL s), .int .i64 a, .int .i64 many, .string (ofL put)] w fun e w' => e = .returned (.tuple #[.string (ofL (spliceOf s a many put).1), .int .i64 (spliceOf s a many put).2]) ∧ Below w.heap.size w w' := by
  by_cases hc : patchErr s a many put = 0
  case neg =>
    have hc' : ((patchErr s a many put : Int) != 0) = true := by simp; omega
    have HC := Lib.hid (show spliceOf s a many put = ([], patchErr s a many put) by unfold spliceOf; rw [if_pos hc]); clear hc
    go_enter Try.func30, Try.ntmps30
    go_wp2_with (go_at_call 57; refine (pcheck_any s put a many _ hs hp).mono ?_; rintro e w1 ⟨rfl, hb1⟩)
    go_ret2
    exact ⟨str_of (by rw [HC.out]) (by rw [HC.out]; try rfl), hb1⟩
  have hc' : ((patchErr s a many put : Int) != 0) = false := by simp [hc]
  have h12 := patch_ok hc
  obtain ⟨⟨h1, h2⟩, h3, h4⟩ := h12
  obtain ⟨x, rfl⟩ : ∃ x : Nat, a = x := ⟨a.toNat, by omega⟩
  obtain ⟨y, rfl⟩ : ∃ y : Nat, many = y := ⟨many.toNat, by omega⟩
  obtain ⟨z, hz⟩ : ∃ z : Nat, z = x + y := ⟨_, rfl⟩
  have HC := Lib.hid (show spliceOf s x y put = (s.take x ++ put ++ s.drop z, 0) by
    unfold spliceOf; rw [if_neg (by simpa using hc), hz, show ((x : Int) + (y : Int)).toNat = x + y by omega, Int.toNat_natCast]); clear hc
  have hxz : ((x : Int) + (y : Int)) = (z : Int) := by omega
  have hxs : x ≤ s.length := by omega
  have hzs : z ≤ s.length := by omega
  have HZ := Lib.hid hz; clear hz
  go_enter Try.func30, Try.ntmps30
  go_wp2_with (go_at_call 57; refine (pcheck_any s put x y _ hs hp).mono ?_; rintro e w1 ⟨rfl, hb1⟩)
  go_quiet (fail)
  go_wp2
  go_ret2
  exact ⟨str_of (by rw [HC.out, List.append_assoc]) (by rw [HC.out]; try rfl), bdrewN hb1 _⟩
theorem moved_of {s put : Bs} {a many p x : Int} {r : Int × Nat} {y : Int} (h : movedOf s a many put p = r) (hx : x = r.1) (hy : y = r.2) : Ending.returned (.tuple #[.int .i64 x, .int .i64 y]) = .returned (.tuple #[.int .i64 (movedOf s a many put p).1, .int .i64 (movedOf s a many put p).2]) := by rw [h, hx, hy]
set_option maxHeartbeats 3200000 in
theorem moved_any (s put : Bs) (a many p : Int) (w : World) (hs : s.length ≤ 100000000) (hp : put.length ≤ 100000000) :
    Calls Try.prog 31 #[.string (ofL s), .int .i64 a, .int .i64 many, .string (ofL put), .int .i64 p] w fun e w' => e = .returned (.tuple #[.int .i64 (movedOf s a many put p).1, .int .i64 (movedOf s a many put p).2]) ∧ Below w.heap.size w w' := by
  have bP := Blk.new w 86 #[.int .i64 a, .int .i64 many, .string (ofL put)]
  have hb0 : Below w.heap.size w (w.alloc (.cells #[.int .i64 a, .int .i64 many, .string (ofL put)] 86)) := (Below.refl _ _).alloc (Nat.le_refl _) _
  by_cases hc : patchErr s a many put = 0
  case neg =>
    have hc' : ((patchErr s a many put : Int) != 0) = true := by simp; omega
    have HC := Lib.hid (show movedOf s a many put p = (0, patchErr s a many put) by unfold movedOf; rw [if_pos hc]); clear hc
    go_enter Try.func31, Try.ntmps31
    go_wp2_with (go_at_call 57; refine (pcheck_any s put a many _ hs hp).mono ?_; rintro e w1 ⟨rfl, hb1⟩)
    go_ret2
    exact ⟨moved_of HC.out rfl rfl, hb0.trans (hb1.mono hb0.size)⟩
  have hc' : ((patchErr s a many put : Int) != 0) = false := by simp [hc]
  obtain ⟨⟨h1, h2⟩, h3, h4⟩ := patch_ok hc
  by_cases h5 : 0 ≤ p ∧ p ≤ (s.length : Int)
  case neg =>
    have HC := Lib.hid (show movedOf s a many put p = (0, 3) by unfold movedOf; rw [if_neg (by simpa using hc), if_pos h5]); clear hc
    go_enter Try.func31, Try.ntmps31
    go_wp2_with (first
      | (go_at_call 57; refine (pcheck_any s put a many _ hs hp).mono ?_; rintro e w1 ⟨rfl, hb1⟩)
      | (go_at_call 48; refine (withinw p _ _ false _ (by simpa using h5)).mono ?_; rintro e w' ⟨rfl, rfl⟩))
    go_ret2
    exact ⟨moved_of HC.out rfl rfl, hb0.trans (hb1.mono hb0.size)⟩
  have H5 := Lib.hid h5
  obtain ⟨h6, h7⟩ := h5
  by_cases h8 : p ≤ a
  · have HC := Lib.hid (show movedOf s a many put p = (p, 0) by unfold movedOf; rw [if_neg (by simpa using hc), if_neg (by simpa using H5.out), if_pos h8]); clear hc
    go_enter Try.func31, Try.ntmps31
    go_wp2_with (first
      | (go_at_call 57; refine (pcheck_any s put a many _ hs hp).mono ?_; rintro e w1 ⟨rfl, hb1⟩)
      | (go_at_call 48; refine (withinw p _ _ true _ (by simpa using H5.out)).mono ?_; rintro e w' ⟨rfl, rfl⟩))
    go_ret2
    exact ⟨moved_of HC.out rfl rfl, hb0.trans (hb1.mono hb0.size)⟩
  by_cases h9 : a + many ≤ p
  · have HC := Lib.hid (show movedOf s a many put p = (p + ((put.length : Int) - many), 0) by unfold movedOf; rw [if_neg (by simpa using hc), if_neg (by simpa using H5.out), if_neg h8, if_pos h9]); clear hc
    go_enter Try.func31, Try.ntmps31
    go_wp2_with (first
      | (go_at_call 57; refine (pcheck_any s put a many _ hs hp).mono ?_; rintro e w1 ⟨rfl, hb1⟩; have bP1 := bP.below hb1 (by simp); have c0 : w1.cell? ⟨w.heap.size, 0, none⟩ = some (.int .i64 a) := bP1.cell 0; have c1 : w1.cell? ⟨w.heap.size, 1, none⟩ = some (.int .i64 many) := bP1.cell 1; have c2 : w1.cell? ⟨w.heap.size, 2, none⟩ = some (.string (ofL put)) := bP1.cell 2)
      | (go_at_call 48; refine (withinw p _ _ true _ (by simpa using H5.out)).mono ?_; rintro e w' ⟨rfl, rfl⟩)
      | (go_at_call 58; refine (size_any a many put _ hp h3 (by omega)).mono ?_; rintro e w' ⟨rfl, rfl⟩))
    go_ret2
    exact ⟨moved_of HC.out rfl rfl, (hb0.trans (hb1.mono hb0.size)).alloc (by have := hb1.size; simp at this; omega) _⟩
  · have HC := Lib.hid (show movedOf s a many put p = (a + (put.length : Int), 0) by unfold movedOf; rw [if_neg (by simpa using hc), if_neg (by simpa using H5.out), if_neg h8, if_neg h9]); clear hc
    go_enter Try.func31, Try.ntmps31
    go_wp2_with (first
      | (go_at_call 57; refine (pcheck_any s put a many _ hs hp).mono ?_; rintro e w1 ⟨rfl, hb1⟩)
      | (go_at_call 48; refine (withinw p _ _ true _ (by simpa using H5.out)).mono ?_; rintro e w' ⟨rfl, rfl⟩))
    go_ret2
    exact ⟨moved_of HC.out rfl rfl, hb0.trans (hb1.mono hb0.size)⟩
end Go.Proofs.Ytfdcimkdhioepaa
