/-
  WALKS of chapter 1: chars.offset, Place, Offset, Line, patch.check, Splice, Moved.
-/
import Derived.Test.YtfdcimkdhioepaaCE
import Derived.Test.YtfdcimkdhioepaaCPlain2
namespace Go.Proofs.Ytfdcimkdhioepaa
open Go.RowKit Go.Shelf Mist
attribute [local go_sem] ofL_extract ofL_size ofL_get ofL_bytes ofL_append
theorem withinw (n low high : Int) (x : Bool) (w : World) (h : decide (low ≤ n ∧ n ≤ high) = x) :
    Calls Try.prog 48 #[.int .i64 n, .int .i64 low, .int .i64 high] w fun e w' => e = .returned (.bool x) ∧ w = w' := by
  refine (within_any n low high w).mono ?_
  rintro e w' ⟨rfl, rfl⟩
  rw [h]
  exact ⟨rfl, rfl⟩
theorem chk2_any (s t : Bs) (g c : Nat) (w : World) (hr : w.cell? ⟨g, 0, none⟩ = some (.string (ofL s))) (hr2 : w.cell? ⟨g, 1, none⟩ = some (.string (ofL t))) (hl : s.length ≤ 100000000) (ht : t.length ≤ 100000000) :
    Calls Try.prog 41 #[.slice (some ⟨g, 0, none⟩) 2 c] w fun e w' => e = .returned (.int .i64 (err2 s t)) ∧ w = w' := by
  refine (chk_any [s, t] g c w (by simp) (fun k hk => ?_) (fun k hk => ?_)).mono ?_
  · have hk2 : k < 2 := hk
    rcases (by omega : k = 0 ∨ k = 1) with rfl | rfl
    · exact hr
    · exact hr2
  · have hk2 : k < 2 := hk
    rcases (by omega : k = 0 ∨ k = 1) with rfl | rfl
    · exact hl
    · exact ht
  · rintro e w' ⟨rfl, rfl⟩
    refine ⟨?_, rfl⟩
    unfold err2 errAll errAll errAll
    split
    · rfl
    · split
      · rfl
      · rename_i h; simp at h; rw [h]
theorem errw (s : Bs) (a : Int) (k : Nat) (h : offErr s a = k) {x : Int} (hx : x = k) : Ending.returned (.int .i64 x) = .returned (.int .i64 (offErr s a)) := by rw [h, hx]
set_option maxHeartbeats 800000 in
theorem offset_any (s : Bs) (a : Int) (w : World) (hl : s.length ≤ 100000000) :
    Calls Try.prog 45 #[.string (ofL s), .int .i64 a] w fun e w' => e = .returned (.int .i64 (offErr s a)) ∧ Below w.heap.size w w' := by
  by_cases hc : (check s).2 = 0
  case neg =>
    have hc' : (((check s).2 : Int) == 0) = false := by simp; omega
    have HC := Lib.hid (show offErr s a = (check s).2 by unfold offErr; rw [if_pos hc]); clear hc
    go_enter Try.func45, Try.ntmps45
    go_wp2_with (go_at_call 41; refine (chk1_any s _ _ _ (by first | (simp; done) | exact cell_new_at _ (by simp) _ _) hl).mono ?_; rintro e w' ⟨rfl, rfl⟩)
    go_ret
    exact ⟨errw s a _ HC.out rfl, (Below.refl _ _).alloc (Nat.le_refl _) _⟩
  have hc' : (((check s).2 : Int) == 0) = true := by simp [hc]
  by_cases hd : 0 ≤ a ∧ a ≤ (s.length : Int)
  · have HX := Lib.hid (show offErr s a = 0 by unfold offErr; rw [if_neg (by simpa using hc), if_pos hd])
    have HC := Lib.hid hc; clear hc
    have HD := Lib.hid (show decide (0 ≤ a ∧ a ≤ (s.length : Int)) = true by simpa using hd); clear hd
    go_enter Try.func45, Try.ntmps45
    go_wp2_with (first
      | (go_at_call 41; refine (chk1_any s _ _ _ (by first | (simp; done) | exact cell_new_at _ (by simp) _ _) hl).mono ?_; rintro e w' ⟨rfl, rfl⟩)
      | (go_at_call 48; refine (withinw _ _ _ _ _ HD.out).mono ?_; rintro e w' ⟨rfl, rfl⟩))
    go_ret
    exact ⟨errw s a _ HX.out (by rw [HC.out]; try rfl), (Below.refl _ _).alloc (Nat.le_refl _) _⟩
  · have HX := Lib.hid (show offErr s a = 3 by unfold offErr; rw [if_neg (by simpa using hc), if_neg hd])
    have HC := Lib.hid hc; clear hc
    have HD := Lib.hid (show decide (0 ≤ a ∧ a ≤ (s.length : Int)) = false by simpa using hd); clear hd
    go_enter Try.func45, Try.ntmps45
    go_wp2_with (first
      | (go_at_call 41; refine (chk1_any s _ _ _ (by first | (simp; done) | exact cell_new_at _ (by simp) _ _) hl).mono ?_; rintro e w' ⟨rfl, rfl⟩)
      | (go_at_call 48; refine (withinw _ _ _ _ _ HD.out).mono ?_; rintro e w' ⟨rfl, rfl⟩))
    go_ret
    exact ⟨errw s a _ HX.out rfl, (Below.refl _ _).alloc (Nat.le_refl _) _⟩
def spotVal (p : Int × Int) : Value := .agg #[.int .i64 p.1, .int .i64 p.2]
set_option maxHeartbeats 1600000 in
theorem place_any (s : Bs) (a : Int) (w : World) (hl : s.length ≤ 100000000) :
    Calls Try.prog 21 #[.string (ofL s), .int .i64 a] w fun e w' => e = .returned (.tuple #[spotVal (placeOf s a).1, .int .i64 (placeOf s a).2]) ∧ Below w.heap.size w w' := by
  by_cases hc : offErr s a = 0
  case neg =>
    have hc' : ((offErr s a : Int) != 0) = true := by simp; omega
    have HC := Lib.hid (show placeOf s a = ((0, 0), offErr s a) by unfold placeOf; rw [if_pos hc]); clear hc
    go_enter Try.func21, Try.ntmps21
    go_wp2_with fail
    refine (offset_any s a _ hl).mono ?_
    rintro e w1 ⟨rfl, hb1⟩
    have bR := (Blk.new w 28 #[.int .i64 0, .int .i64 0]).below hb1 (by simp)
    have hw1 : Below w.heap.size w w1 := ((Below.refl _ _).alloc (Nat.le_refl _) _).trans (hb1.mono (by simp))
    clear hb1
    have c0 : w1.cell? ⟨w.heap.size, 0, none⟩ = some (.int .i64 0) := bR.cell 0
    have c1 : w1.cell? ⟨w.heap.size, 1, none⟩ = some (.int .i64 0) := bR.cell 1
    have f0 : w1.frozen? ⟨w.heap.size, 0, none⟩ = false := bR.frozen 0
    have f1 : w1.frozen? ⟨w.heap.size, 1, none⟩ = false := bR.frozen 1
    go_wp2
    have bF := (bR.set_ 0 (.int .i64 0)).set_ 1 (.int .i64 0)
    have hF := (hw1.setCell (p := ⟨w.heap.size, 0, none⟩) (Nat.le_refl _) (.int .i64 0)).setCell (p := ⟨w.heap.size, 1, none⟩) (Nat.le_refl _) (.int .i64 0)
    obtain ⟨W2, hW2⟩ : ∃ W2, W2 = (w1.setCell ⟨w.heap.size, 0, none⟩ (.int .i64 0)).setCell ⟨w.heap.size, 1, none⟩ (.int .i64 0) := ⟨_, rfl⟩
    rw [← hW2] at bF hF ⊢
    (try simp only [Exit.inBlock, Exit.then])
    refine bodyPost_ret (v := .tuple #[spotVal (0, 0), .int .i64 (offErr s a)]) ?_ rfl ?_
    · have k0 := bF.cell 0
      have k1 := bF.cell 1
      simp at k0 k1
      simp [results, Try.f21, go_sem, k0, k1, spotVal]
    · exact ⟨num_of (by rw [HC.out]; try rfl) (by rw [HC.out]; try rfl), hF⟩
  have hc' : ((offErr s a : Int) != 0) = false := by simp [hc]
  have hai : 0 ≤ a ∧ a ≤ (s.length : Int) := by
    unfold offErr at hc
    split at hc
    · contradiction
    · split at hc
      · assumption
      · cases hc
  obtain ⟨hi1, hi2, hi3⟩ := aroundOf_in s a
  have HC := Lib.hid (show placeOf s a = ((((aroundOf s a).2 : Int), a - ((aroundOf s a).1.1 : Int) + 1), 0) by unfold placeOf; rw [if_neg (by simpa using hc)]); clear hc
  go_enter Try.func21, Try.ntmps21
  go_wp2_with fail
  refine (offset_any s a _ hl).mono ?_
  rintro e w1 ⟨rfl, hb1⟩
  have bR := (Blk.new w 28 #[.int .i64 0, .int .i64 0]).below hb1 (by simp)
  have hw1 : Below w.heap.size w w1 := ((Below.refl _ _).alloc (Nat.le_refl _) _).trans (hb1.mono (by simp))
  have hz1 := hb1.size
  rw [World.size_alloc] at hz1
  clear hb1
  go_wp2_with fail
  refine (around_any s a _ hl).mono ?_
  rintro e w2 ⟨rfl, hb2⟩
  have bR2 := bR.below hb2 (by omega)
  have hw2 : Below w.heap.size w w2 := hw1.trans (hb2.mono hw1.size)
  have hz2 := hb2.size
  clear hb2 hw1 bR
  obtain ⟨⟨⟨fr, to⟩, k⟩, hk⟩ : ∃ x, x = aroundOf s a := ⟨_, rfl⟩
  rw [← hk] at hi1 hi2 hi3 HC ⊢
  clear hk
  dsimp only [lineVal] at hi1 hi2 hi3 HC ⊢
  have bR3 := bR2.alloc (.cells #[.int .i64 fr, .int .i64 to] 63)
  have c0 : (w2.alloc (.cells #[.int .i64 fr, .int .i64 to] 63)).cell? ⟨w.heap.size, 0, none⟩ = some (.int .i64 0) := bR3.cell 0
  have c1 : (w2.alloc (.cells #[.int .i64 fr, .int .i64 to] 63)).cell? ⟨w.heap.size, 1, none⟩ = some (.int .i64 0) := bR3.cell 1
  have f0 : (w2.alloc (.cells #[.int .i64 fr, .int .i64 to] 63)).frozen? ⟨w.heap.size, 0, none⟩ = false := bR3.frozen 0
  have f1 : (w2.alloc (.cells #[.int .i64 fr, .int .i64 to] 63)).frozen? ⟨w.heap.size, 1, none⟩ = false := bR3.frozen 1
  go_wp2
  have bF := (bR3.set_ 0 (.int .i64 k)).set_ 1 (.int .i64 (a - fr + 1))
  have hF := ((hw2.alloc hw2.size (.cells #[.int .i64 fr, .int .i64 to] 63)).setCell (p := ⟨w.heap.size, 0, none⟩) (Nat.le_refl _) (.int .i64 k)).setCell (p := ⟨w.heap.size, 1, none⟩) (Nat.le_refl _) (.int .i64 (a - fr + 1))
  obtain ⟨W2, hW2⟩ : ∃ W2, W2 = ((w2.alloc (.cells #[.int .i64 fr, .int .i64 to] 63)).setCell ⟨w.heap.size, 0, none⟩ (.int .i64 k)).setCell ⟨w.heap.size, 1, none⟩ (.int .i64 (a - fr + 1)) := ⟨_, rfl⟩
  rw [← hW2] at bF hF ⊢
  (try simp only [Exit.inBlock, Exit.then])
  refine bodyPost_ret (v := .tuple #[spotVal ((k : Int), a - fr + 1), .int .i64 0]) ?_ rfl ?_
  · have k0 := bF.cell 0
    have k1 := bF.cell 1
    simp at k0 k1
    simp [results, Try.f21, go_sem, k0, k1, spotVal]
  · exact ⟨num_of (by rw [HC.out]; try rfl) (by rw [HC.out]; try rfl), hF⟩
set_option maxHeartbeats 1600000 in
theorem lineT_any (s : Bs) (k : Int) (w : World) (hl : s.length ≤ 100000000) :
    Calls Try.prog 35 #[.string (ofL s), .int .i64 k] w fun e w' => e = .returned (.tuple #[.string (ofL (lineOf s k).1), .int .i64 (lineOf s k).2]) ∧ Below w.heap.size w w' := by
  obtain ⟨hi1, hi2⟩ := numberedOf_in s k
  by_cases hc : (numberedOf s k).2 = 0
  case neg =>
    have hc' : (((numberedOf s k).2 : Int) != 0) = true := by simp; omega
    have HC := Lib.hid (show lineOf s k = ([], (numberedOf s k).2) by unfold lineOf; rw [if_pos hc]); clear hc
    go_enter Try.func35, Try.ntmps35
    go_wp2_with fail
    refine (numbered_any s k _ hl).mono ?_
    rintro e w1 ⟨rfl, hb1⟩
    dsimp only [lineVal]
    go_wp2
    go_ret2
    exact ⟨num_of (by rw [HC.out]; try rfl) (by rw [HC.out]; try rfl), hb1.alloc hb1.size _⟩
  have hc' : (((numberedOf s k).2 : Int) != 0) = false := by simp [hc]
  have HC := Lib.hid (show lineOf s k = (cutOf s (numberedOf s k).1, 0) by unfold lineOf; rw [if_neg (by simpa using hc)]); clear hc
  go_enter Try.func35, Try.ntmps35
  go_wp2_with fail
  refine (numbered_any s k _ hl).mono ?_
  rintro e w1 ⟨rfl, hb1⟩
  obtain ⟨⟨⟨fr, to⟩, er⟩, hk⟩ : ∃ x, x = numberedOf s k := ⟨_, rfl⟩
  rw [← hk] at hi1 hi2 HC hc' ⊢
  clear hk
  dsimp only [lineVal] at hi1 hi2 HC hc' ⊢
  go_wp2
  go_ret2
  exact ⟨num_of (by rw [HC.out]; try rfl) (by rw [HC.out]; try rfl), hb1.alloc hb1.size _⟩
set_option maxHeartbeats 1600000 in
theorem offsetP_any (s : Bs) (line col : Int) (w : World) (hl : s.length ≤ 100000000) :
    Calls Try.prog 22 #[.string (ofL s), .agg #[.int .i64 line, .int .i64 col]] w fun e w' => e = .returned (.tuple #[.int .i64 (offsetOf s line col).1, .int .i64 (offsetOf s line col).2]) ∧ Below w.heap.size w w' := by
  obtain ⟨hi1, hi2⟩ := numberedOf_in s line
  have bA := Blk.new w 28 #[.int .i64 line, .int .i64 col]
  have hz0 : (w.alloc (.cells #[.int .i64 line, .int .i64 col] 28)).heap.size = w.heap.size + 1 := by simp
  by_cases hc : (numberedOf s line).2 = 0
  case neg =>
    have hc' : (((numberedOf s line).2 : Int) != 0) = true := by simp; omega
    have HC := Lib.hid (show offsetOf s line col = (0, (numberedOf s line).2) by unfold offsetOf; rw [if_pos hc]); clear hc
    go_enter Try.func22, Try.ntmps22
    go_wp2_with fail
    refine (numbered_any s line _ hl).mono ?_
    rintro e w1 ⟨rfl, hb1⟩
    dsimp only [lineVal]
    have hw1 : Below w.heap.size w w1 := ((Below.refl _ _).alloc (Nat.le_refl _) _).trans (hb1.mono (by simp))
    go_wp2
    go_ret2
    exact ⟨num_of (by rw [HC.out]; try rfl) (by rw [HC.out]; try rfl), hw1.alloc hw1.size _⟩
  have hc' : (((numberedOf s line).2 : Int) != 0) = false := by simp [hc]
  by_cases hd : 1 ≤ col ∧ col ≤ ((numberedOf s line).1.2 : Int) - ((numberedOf s line).1.1 : Int) + 1
  · have HC := Lib.hid (show offsetOf s line col = (((numberedOf s line).1.1 : Int) + col - 1, 0) by unfold offsetOf; rw [if_neg (by simpa using hc), if_pos hd]); clear hc
    go_enter Try.func22, Try.ntmps22
    go_wp2_with fail
    refine (numbered_any s line _ hl).mono ?_
    rintro e w1 ⟨rfl, hb1⟩
    have bA1 := bA.below hb1 (by simp)
    have hw1 : Below w.heap.size w w1 := ((Below.refl _ _).alloc (Nat.le_refl _) _).trans (hb1.mono (by simp))
    obtain ⟨⟨⟨fr, to⟩, er⟩, hk⟩ : ∃ x, x = numberedOf s line := ⟨_, rfl⟩
    rw [← hk] at hi1 hi2 HC hc' hd ⊢
    clear hk
    dsimp only [lineVal] at hi1 hi2 HC hc' hd ⊢
    have bA2 := bA1.alloc (.cells #[.int .i64 fr, .int .i64 to] 63)
    have c0 : (w1.alloc (.cells #[.int .i64 fr, .int .i64 to] 63)).cell? ⟨w.heap.size, 0, none⟩ = some (.int .i64 line) := bA2.cell 0
    have c1 : (w1.alloc (.cells #[.int .i64 fr, .int .i64 to] 63)).cell? ⟨w.heap.size, 1, none⟩ = some (.int .i64 col) := bA2.cell 1
    go_wp2_with (go_at_call 48; refine (withinw _ _ _ true _ (by simpa using hd)).mono ?_; rintro e w' ⟨rfl, rfl⟩)
    go_ret2
    exact ⟨num_of (by rw [HC.out]; try rfl) (by rw [HC.out]; try rfl), hw1.alloc hw1.size _⟩
  · have HC := Lib.hid (show offsetOf s line col = (0, 3) by unfold offsetOf; rw [if_neg (by simpa using hc), if_neg hd]); clear hc
    go_enter Try.func22, Try.ntmps22
    go_wp2_with fail
    refine (numbered_any s line _ hl).mono ?_
    rintro e w1 ⟨rfl, hb1⟩
    have bA1 := bA.below hb1 (by simp)
    have hw1 : Below w.heap.size w w1 := ((Below.refl _ _).alloc (Nat.le_refl _) _).trans (hb1.mono (by simp))
    obtain ⟨⟨⟨fr, to⟩, er⟩, hk⟩ : ∃ x, x = numberedOf s line := ⟨_, rfl⟩
    rw [← hk] at hi1 hi2 hc' hd ⊢
    clear hk
    dsimp only [lineVal] at hi1 hi2 hc' hd ⊢
    have bA2 := bA1.alloc (.cells #[.int .i64 fr, .int .i64 to] 63)
    have c0 : (w1.alloc (.cells #[.int .i64 fr, .int .i64 to] 63)).cell? ⟨w.heap.size, 0, none⟩ = some (.int .i64 line) := bA2.cell 0
    have c1 : (w1.alloc (.cells #[.int .i64 fr, .int .i64 to] 63)).cell? ⟨w.heap.size, 1, none⟩ = some (.int .i64 col) := bA2.cell 1
    go_wp2_with (go_at_call 48; refine (withinw _ _ _ false _ (by simpa using hd)).mono ?_; rintro e w' ⟨rfl, rfl⟩)
    go_ret2
    exact ⟨num_of (by rw [HC.out]; try rfl) (by rw [HC.out]; try rfl), hw1.alloc hw1.size _⟩
end Go.Proofs.Ytfdcimkdhioepaa
