/-
  THE LAW CharsBack, walked: for any bytes it answers true and leaves the old memory as it was.
-/
import Derived.Test.YtfdcimkdhioepaaCU
import Derived.Test.YtfdcimkdhioepaaCY
namespace Mist
theorem posAt_lt (s : Bs) (a : Nat) : ∀ k, a + k < s.length → ((posAt s a).1 < (posAt s (a + k + 1)).1 ∨ ((posAt s a).1 = (posAt s (a + k + 1)).1 ∧ (posAt s a).2 < (posAt s (a + k + 1)).2))
  | 0, h => by
    rw [Nat.add_zero] at h ⊢
    by_cases e : gt s a = 10
    · rw [posAt_feed s a h e]; exact .inl (Nat.lt_succ_self _)
    · rw [posAt_other s a h e]; exact .inr ⟨rfl, Nat.lt_succ_self _⟩
  | k + 1, h => by
    have ih := posAt_lt s a k (by omega)
    rw [show a + (k + 1) = a + k + 1 by omega] at h ⊢
    by_cases e : gt s (a + k + 1) = 10
    · rw [posAt_feed s _ h e]; simp only; omega
    · rw [posAt_other s _ h e]; simp only; omega
/-- Behind a line feed there is no column more. -/
theorem offsetOf_past (s : Bs) (n : Nat) (hc : (check s).2 = 0) (h : n < s.length) (e : gt s n = 10) : offsetOf s (posAt s n).1 ((posAt s n).2 + 1) = (0, 3) := by
  refine offsetOf_none s _ _ hc (fun a ha => ?_)
  rintro ⟨h1, h2⟩
  have hf := posAt_feed s n h e
  rcases Nat.lt_trichotomy a n with hl | hl | hl
  · have := posAt_lt s a (n - a - 1) (by omega)
    rw [show a + (n - a - 1) + 1 = n by omega] at this
    omega
  · subst hl; omega
  · rcases Nat.eq_or_lt_of_le hl with hl | hl
    · rw [← hl, Nat.succ_eq_add_one, hf] at h1; simp only at h1; omega
    · have := posAt_lt s (n + 1) (a - (n + 1) - 1) (by omega)
      rw [show n + 1 + (a - (n + 1) - 1) + 1 = a by omega, hf] at this
      simp only at this; omega
/-- The place before an offset's. -/
def lastAt (s : Bs) : Nat → Nat × Nat
  | 0 => (1, 0)
  | n + 1 => posAt s n
end Mist
namespace Go.Proofs.Ytfdcimkdhioepaa
open Go.RowKit Go.Shelf Mist
attribute [local go_sem] ofL_extract ofL_size ofL_get ofL_bytes ofL_append
theorem placeN (s : Bs) (n x y : Nat) (w : World) (hl : s.length ≤ 100000000) (h : placeOf s n = (((x : Int), (y : Int)), 0)) :
    Calls Try.prog 21 #[.string (ofL s), .int .i64 n] w fun e w' => e = .returned (.tuple #[.agg #[.int .i64 x, .int .i64 y], .int .i64 0]) ∧ Below w.heap.size w w' := by
  refine (place_any s n w hl).mono ?_
  rintro e w' ⟨rfl, hb⟩
  rw [h]; exact ⟨rfl, hb⟩
theorem offsetN (s : Bs) (line col k : Int) (er : Nat) (w : World) (hl : s.length ≤ 100000000) (h : offsetOf s line col = (k, er)) :
    Calls Try.prog 22 #[.string (ofL s), .agg #[.int .i64 line, .int .i64 col]] w fun e w' => e = .returned (.tuple #[.int .i64 k, .int .i64 er]) ∧ Below w.heap.size w w' := by
  refine (offsetP_any s line col w hl).mono ?_
  rintro e w' ⟨rfl, hb⟩
  rw [h]; exact ⟨rfl, hb⟩
set_option maxRecDepth 100000 in
set_option maxHeartbeats 6400000 in
theorem back_law (v : Value) (l : Bs) (w : World) (hE : CEnv w) (hv : U8s w v l) (hl : l.length ≤ 4611686018427387904) :
    Calls Try.prog 8 #[v] w fun e w' => e = .returned (.bool true) ∧ Below w.heap.size w w' := by
  have HE := Lib.hid hE; clear hE
  have HV := Lib.hid (valid_by l 300 v w hv (by omega) hl); clear hv
  have hsl := validBy_len l 300
  have HCK := Lib.hid (show (check (validBy l 300)).2 = 0 by rw [validBy_check l 300 (by omega)])
  obtain ⟨s, hs⟩ : ∃ s, s = validBy l 300 := ⟨_, rfl⟩
  rw [← hs] at hsl HCK
  have HS := Lib.hid hs; clear hs
  go_enter Try.func8, Try.ntmps8
  go_wp2_with fail
  refine HV.out.mono ?_
  rintro e w1 ⟨rfl, hb1⟩
  rw [← HS.out]
  have bL := Blk.new w1 28 #[.int .i64 1, .int .i64 0]
  have hB1 := hb1.alloc hb1.size (.cells #[.int .i64 1, .int .i64 0] 28)
  have hz1 := hb1.size
  clear hb1 HV
  go_wp2
  go_loopw [5] (fun i wr => ∃ n : Nat, n ≤ s.length + 1 ∧ i = .int .i64 n ∧ Blk wr w1.heap.size 28 #[.int .i64 (lastAt s n).1, .int .i64 (lastAt s n).2] ∧ Below w.heap.size w wr) (fun i _ => s.length + 1 - (intOf i).toNat)
  case atStart => exact ⟨0, Nat.zero_le _, rfl, bL, hB1⟩
  case round =>
    obtain ⟨n, hn, rfl, bB, hb⟩ := hrel
    have HB := Lib.hid hb; clear hb
    have hblt := bB.lt
    by_cases hlt : n ≤ s.length
    · have HPL := Lib.hid (placeOf_pos s n HCK.out hlt)
      have HIT := Lib.hid (offsetOf_hit s n HCK.out hlt)
      have hle := posAt_le s n hlt
      obtain ⟨⟨x, y⟩, hp⟩ : ∃ p, p = posAt s n := ⟨_, rfl⟩
      have hlast : lastAt s (n + 1) = (x, y) := by show posAt s n = _; rw [hp]
      have hpn := hp
      rw [← hp] at HPL HIT hle
      simp only at HPL HIT hle
      have HLA := Lib.hid hlast; clear hlast
      have HPN := Lib.hid hpn; clear hpn hp
      obtain ⟨⟨lx, ly⟩, hq⟩ : ∃ p, p = lastAt s n := ⟨_, rfl⟩
      rw [← hq] at bB
      simp only at bB
      have HQ := Lib.hid hq; clear hq
      have hqle : lx ≤ 1000000 ∧ ly ≤ 1000000 := by
        have h := HQ.out
        cases n with
        | zero => injection h with h1 h2; omega
        | succ n =>
          have h2 := posAt_le s n (by omega)
          rw [show posAt s n = (lx, ly) from h.symm] at h2
          simp only at h2; omega
      go_wp2_with fail
      refine (placeN s n x y _ (by omega) HPL.out).mono ?_
      rintro e w2 ⟨rfl, hb2⟩
      have bB2 := bB.below hb2 hblt
      have hz2 := Nat.lt_of_lt_of_le hblt hb2.size
      have HB2 := Lib.hid (HB.out.trans (hb2.mono HB.out.size)); clear hb2 bB
      have bX := Blk.new w2 28 #[.int .i64 x, .int .i64 y]
      have bB3 := bB2.alloc (.cells #[.int .i64 x, .int .i64 y] 28)
      have HB3 := Lib.hid (HB2.out.alloc HB2.out.size (.cells #[.int .i64 x, .int .i64 y] 28)); clear bB2
      have hz3 : w2.heap.size < (w2.alloc (.cells #[.int .i64 x, .int .i64 y] 28)).heap.size := by simp
      go_wp2_with fail
      refine (offsetN s x y n 0 _ (by omega) HIT.out).mono ?_
      rintro e w4 ⟨rfl, hb4⟩
      have bX4 := bX.below hb4 hz3
      have bB4 := bB3.below hb4 (by omega)
      have hz4 := Nat.lt_of_lt_of_le hz3 hb4.size
      have HB4 := Lib.hid (HB3.out.trans (hb4.mono HB3.out.size)); clear hb4 bX bB3 hz3
      have g6 : w1.heap.size < w2.heap.size := hz2
      have bB5 := bB4.alloc (.cells #[.int .i64 lx, .int .i64 ((ly : Int) + 1)] 28)
      have bX5 := bX4.alloc (.cells #[.int .i64 lx, .int .i64 ((ly : Int) + 1)] 28)
      have bW5 := Blk.new w4 28 #[.int .i64 lx, .int .i64 ((ly : Int) + 1)]
      have HB5 := Lib.hid (HB4.out.alloc HB4.out.size (.cells #[.int .i64 lx, .int .i64 ((ly : Int) + 1)] 28))
      have hz5 : w4.heap.size < (w4.alloc (.cells #[.int .i64 lx, .int .i64 ((ly : Int) + 1)] 28)).heap.size := by simp
      have l0 : w4.cell? ⟨w1.heap.size, 0, none⟩ = some (.int .i64 lx) := bB4.cell 0
      have l1 : w4.cell? ⟨w1.heap.size, 1, none⟩ = some (.int .i64 ly) := bB4.cell 1
      cases n with
      | zero =>
        obtain ⟨rfl, rfl⟩ : lx = 1 ∧ ly = 0 := by have h := HQ.out; injection h with h1 h2; exact ⟨h1, h2⟩
        obtain ⟨rfl, rfl⟩ : x = 1 ∧ y = 1 := by have h := HPN.out; rw [posAt_zero] at h; injection h with h1 h2; exact ⟨h1, h2⟩
        have l2 : (w4.alloc (.cells #[.int .i64 1, .int .i64 1] 28)).cell? ⟨w1.heap.size, 0, none⟩ = some (.int .i64 1) := bB5.cell 0
        have l3 : (w4.alloc (.cells #[.int .i64 1, .int .i64 1] 28)).cell? ⟨w1.heap.size, 1, none⟩ = some (.int .i64 0) := bB5.cell 1
        have f0 : (w4.alloc (.cells #[.int .i64 1, .int .i64 1] 28)).frozen? ⟨w1.heap.size, 0, none⟩ = false := bB5.frozen 0
        have f1 : (w4.alloc (.cells #[.int .i64 1, .int .i64 1] 28)).frozen? ⟨w1.heap.size, 1, none⟩ = false := bB5.frozen 1
        have x0 : (w4.alloc (.cells #[.int .i64 1, .int .i64 1] 28)).cell? ⟨w2.heap.size, 0, none⟩ = some (.int .i64 1) := bX5.cell 0
        have x1 : (w4.alloc (.cells #[.int .i64 1, .int .i64 1] 28)).cell? ⟨w2.heap.size, 1, none⟩ = some (.int .i64 1) := bX5.cell 1
        go_wp2
        obtain ⟨bF, hF⟩ := store2 bB5 HB5.out (by omega) (.int .i64 1) (.int .i64 1)
        exact ⟨⟨1, by omega, rfl, bF, hF⟩, by simp [intOf]⟩
      | succ n =>
        have hlt2 : n < s.length := by omega
        have hls : n + 1 ≤ s.length := hlt
        have l2 : (w4.alloc (.cells #[.int .i64 lx, .int .i64 ((ly : Int) + 1)] 28)).cell? ⟨w1.heap.size, 0, none⟩ = some (.int .i64 lx) := bB5.cell 0
        have l3 : (w4.alloc (.cells #[.int .i64 lx, .int .i64 ((ly : Int) + 1)] 28)).cell? ⟨w1.heap.size, 1, none⟩ = some (.int .i64 ly) := bB5.cell 1
        have f0 : (w4.alloc (.cells #[.int .i64 lx, .int .i64 ((ly : Int) + 1)] 28)).frozen? ⟨w1.heap.size, 0, none⟩ = false := bB5.frozen 0
        have f1 : (w4.alloc (.cells #[.int .i64 lx, .int .i64 ((ly : Int) + 1)] 28)).frozen? ⟨w1.heap.size, 1, none⟩ = false := bB5.frozen 1
        have x0 : (w4.alloc (.cells #[.int .i64 lx, .int .i64 ((ly : Int) + 1)] 28)).cell? ⟨w2.heap.size, 0, none⟩ = some (.int .i64 x) := bX5.cell 0
        have x1 : (w4.alloc (.cells #[.int .i64 lx, .int .i64 ((ly : Int) + 1)] 28)).cell? ⟨w2.heap.size, 1, none⟩ = some (.int .i64 y) := bX5.cell 1
        have HQ2 := Lib.hid (show posAt s n = (lx, ly) from HQ.out.symm)
        by_cases h10 : gt s n = 10
        · have h10' : (((gt s n).toNat : Int) == 10) = true := by rw [h10]; rfl
          have HPA := Lib.hid (show offsetOf s lx ((ly : Int) + 1) = (0, 3) by have := offsetOf_past s n HCK.out hlt2 h10; rw [HQ2.out] at this; exact this)
          obtain ⟨rfl, rfl⟩ : x = lx + 1 ∧ y = 1 := by have h := HPN.out; rw [posAt_feed s n hlt2 h10, HQ2.out] at h; injection h with h1 h2; exact ⟨h1, h2⟩
          clear h10
          have bB6 := bB4.alloc (.cells #[.int .i64 ((lx : Int) + 1), .int .i64 1] 28)
          have bX6 := bX4.alloc (.cells #[.int .i64 ((lx : Int) + 1), .int .i64 1] 28)
          have bW6 := Blk.new w4 28 #[.int .i64 ((lx : Int) + 1), .int .i64 1]
          have HB6 := Lib.hid (HB4.out.alloc HB4.out.size (.cells #[.int .i64 ((lx : Int) + 1), .int .i64 1] 28))
          have hz6 : w4.heap.size < (w4.alloc (.cells #[.int .i64 ((lx : Int) + 1), .int .i64 1] 28)).heap.size := by simp
          have m0 : (w4.alloc (.cells #[.int .i64 ((lx : Int) + 1), .int .i64 1] 28)).cell? ⟨w1.heap.size, 0, none⟩ = some (.int .i64 lx) := bB6.cell 0
          have m1 : (w4.alloc (.cells #[.int .i64 ((lx : Int) + 1), .int .i64 1] 28)).cell? ⟨w1.heap.size, 1, none⟩ = some (.int .i64 ly) := bB6.cell 1
          go_wp2_with fail
          refine (offsetN s lx ((ly : Int) + 1) 0 3 _ (by omega) HPA.out).mono ?_
          rintro e w7 ⟨rfl, hb7⟩
          have bB7 := bB6.below hb7 (by omega)
          have bX7 := bX6.below hb7 (by omega)
          have bW7 := bW6.below hb7 hz6
          have HB7 := Lib.hid (HB6.out.trans (hb7.mono HB6.out.size)); clear hb7 l2 l3 f0 f1 x0 x1 l0 l1 m0 m1
          have l0 : w7.cell? ⟨w1.heap.size, 0, none⟩ = some (.int .i64 lx) := bB7.cell 0
          have l1 : w7.cell? ⟨w1.heap.size, 1, none⟩ = some (.int .i64 ly) := bB7.cell 1
          have f0 : w7.frozen? ⟨w1.heap.size, 0, none⟩ = false := bB7.frozen 0
          have f1 : w7.frozen? ⟨w1.heap.size, 1, none⟩ = false := bB7.frozen 1
          have x0 : w7.cell? ⟨w2.heap.size, 0, none⟩ = some (.int .i64 ((lx : Int) + 1)) := bX7.cell 0
          have x1 : w7.cell? ⟨w2.heap.size, 1, none⟩ = some (.int .i64 1) := bX7.cell 1
          have z0 : w7.cell? ⟨w4.heap.size, 0, none⟩ = some (.int .i64 ((lx : Int) + 1)) := bW7.cell 0
          have z1 : w7.cell? ⟨w4.heap.size, 1, none⟩ = some (.int .i64 1) := bW7.cell 1
          go_wp2
          obtain ⟨bF, hF⟩ := store2 bB7 HB7.out (by omega) (.int .i64 ((lx : Int) + 1)) (.int .i64 1)
          refine ⟨⟨n + 1 + 1, by omega, by go_num, ?_, hF⟩, by simp [intOf]; omega⟩
          rw [HLA.out]; exact bF
        · have h10' : (((gt s n).toNat : Int) == 10) = false := by
            rw [beq_eq_false_iff_ne]; intro e
            exact h10 (UInt8.toNat_inj.1 (by have : (gt s n).toNat = 10 := by omega
                                             rw [this]; rfl))
          obtain ⟨rfl, rfl⟩ : x = lx ∧ y = ly + 1 := by have h := HPN.out; rw [posAt_other s n hlt2 h10, HQ2.out] at h; injection h with h1 h2; exact ⟨h1, h2⟩
          clear h10
          go_wp2
          obtain ⟨bF, hF⟩ := store2 bB5 HB5.out (by omega) (.int .i64 x) (.int .i64 ((ly : Int) + 1))
          refine ⟨⟨n + 1 + 1, by omega, by go_num, ?_, hF⟩, by simp [intOf]; omega⟩
          rw [HLA.out]; exact bF
    · go_wp2_with fail
      refine (known_any _ (HE.out.below HB.out)).mono ?_
      rintro e wz ⟨rfl, hbz⟩
      have HBZ := Lib.hid (HB.out.trans (hbz.mono HB.out.size)); clear hbz
      go_wp2_with fail
      go_ret
      exact ⟨rfl, HBZ.out⟩
end Go.Proofs.Ytfdcimkdhioepaa
