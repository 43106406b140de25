/-
  WALKS of chapter 1: mistref01.Place.
-/
import Derived.Test.YtfdcimkdhioepaaCS
import Derived.Test.YtfdcimkdhioepaaCPlain5
namespace Go.Proofs.Ytfdcimkdhioepaa
open Go.RowKit Go.Shelf Mist
attribute [local go_sem] ofL_extract ofL_size ofL_get ofL_bytes ofL_append
/-- Two cells of a block, stored. -/
theorem store2 {w W : World} {n g : Nat} {t : TypeId} {x y : Value} (bR : Blk W g t #[x, y]) (hB : Below n w W) (h1 : n ≤ g) (a b : Value) :
    Blk ((W.setCell ⟨g, 0, none⟩ a).setCell ⟨g, 1, none⟩ b) g t #[a, b] ∧ Below n w ((W.setCell ⟨g, 0, none⟩ a).setCell ⟨g, 1, none⟩ b) :=
  ⟨(bR.set_ 0 a).set_ 1 b, (hB.setCell (p := ⟨g, 0, none⟩) h1 a).setCell (p := ⟨g, 1, none⟩) h1 b⟩
def PlPost (s : Bs) (a : Int) (w : World) (e : Ending) (w' : World) : Prop := e = .returned (.tuple #[spotVal (placeOf s a).1, .int .i64 (placeOf s a).2]) ∧ Below w.heap.size w w'
theorem plPost_of {s : Bs} {a : Int} {r : (Int × Int) × Nat} {x y z : Int} {w w' : World} (h : placeOf s a = r) (hx : x = r.1.1) (hy : y = r.1.2) (hz : z = r.2) (hb : Below w.heap.size w w') : PlPost s a w (.returned (.tuple #[spotVal (x, y), .int .i64 z])) w' := ⟨by rw [h, hx, hy, hz], hb⟩
set_option maxRecDepth 100000 in
set_option maxHeartbeats 3200000 in
theorem rplace_any (s : Bs) (a : Int) (w : World) (hl : s.length ≤ 100000000) :
    Calls Try.prog 23 #[.string (ofL s), .int .i64 a] w (PlPost s a w) := by
  have bR := Blk.new w 28 #[.int .i64 0, .int .i64 0]
  have hw1 : Below w.heap.size w (w.alloc (.cells #[.int .i64 0, .int .i64 0] 28)) := (Below.refl _ _).alloc (Nat.le_refl _) _
  have hfin : ∀ (k : Nat) (W1 : World) (z : Int), placeOf s a = ((0, 0), k) → z = k → Blk W1 w.heap.size 28 #[.int .i64 0, .int .i64 0] → Below w.heap.size w W1 → PlPost s a w (.returned (.tuple #[spotVal (0, 0), .int .i64 z])) W1 := fun k W1 z h1 hz h2 h3 => plPost_of h1 rfl rfl hz h3
  by_cases hc : (check s).2 = 0
  case neg =>
    have hc' : (((check s).2 : Int) != 0) = true := by simp; omega
    have HC := Lib.hid (placeOf_bad s a hc); clear hc
    go_enter Try.func23, Try.ntmps23
    go_wp2_with fail
    refine (rcheck_any s _ hl).mono ?_
    rintro e w' ⟨rfl, rfl⟩
    go_wp2
    (try simp only [Exit.inBlock, Exit.then])
    refine bodyPost_ret (v := .tuple #[spotVal (0, 0), .int .i64 (check s).2]) ?_ rfl (hfin _ _ _ HC.out rfl bR hw1)
    simp [results, Try.f23, go_sem, spotVal]
  have hc' : (((check s).2 : Int) != 0) = false := by simp [hc]
  rcases (by omega : a < 0 ∨ 0 ≤ a) with h1 | h1
  · have HC := Lib.hid (placeOf_out s a hc (by omega)); clear hc
    go_enter Try.func23, Try.ntmps23
    go_wp2_with fail
    refine (rcheck_any s _ hl).mono ?_
    rintro e w' ⟨rfl, rfl⟩
    go_wp2
    (try simp only [Exit.inBlock, Exit.then])
    refine bodyPost_ret (v := .tuple #[spotVal (0, 0), .int .i64 3]) ?_ rfl (hfin _ _ _ HC.out rfl bR hw1)
    simp [results, Try.f23, go_sem, spotVal]
  rcases (by omega : (s.length : Int) < a ∨ a ≤ (s.length : Int)) with h2 | h2
  · have HC := Lib.hid (placeOf_out s a hc (by omega)); clear hc
    go_enter Try.func23, Try.ntmps23
    go_wp2_with fail
    refine (rcheck_any s _ hl).mono ?_
    rintro e w' ⟨rfl, rfl⟩
    go_wp2
    (try simp only [Exit.inBlock, Exit.then])
    refine bodyPost_ret (v := .tuple #[spotVal (0, 0), .int .i64 3]) ?_ rfl (hfin _ _ _ HC.out rfl bR hw1)
    simp [results, Try.f23, go_sem, spotVal]
  obtain ⟨m, rfl⟩ : ∃ m : Nat, a = m := ⟨a.toNat, by omega⟩
  have hms : m ≤ s.length := by omega
  have HC := Lib.hid (placeOf_pos s m hc hms); clear hc hfin
  go_enter Try.func23, Try.ntmps23
  go_wp2_with fail
  refine (rcheck_any s _ hl).mono ?_
  rintro e w' ⟨rfl, rfl⟩
  go_wp2
  go_loopw [9] (fun i wr => ∃ n : Nat, n ≤ m ∧ i = .int .i64 n ∧ Blk wr (w.heap.size + 1) 28 #[.int .i64 (posAt s n).1, .int .i64 (posAt s n).2] ∧ Blk wr w.heap.size 28 #[.int .i64 0, .int .i64 0] ∧ Below w.heap.size w wr) (fun i _ => m - (intOf i).toNat)
  case atStart => exact ⟨0, Nat.zero_le _, rfl, by have h := Blk.new (w.alloc (.cells #[.int .i64 0, .int .i64 0] 28)) 28 #[.int .i64 1, .int .i64 1]; simp only [World.size_alloc] at h; exact h, bR.alloc _, hw1.alloc hw1.size _⟩
  case round =>
    obtain ⟨n, hn, rfl, bP, bZ, hb⟩ := hrel
    have HB := Lib.hid hb; clear hb
    have hle := posAt_le s n (by omega)
    by_cases hlt : n < m
    · have hls : n < s.length := by omega
      by_cases h10 : gt s n = 10
      · have h10' : (((gt s n).toNat : Int) == 10) = true := by rw [h10]; rfl
        have HX := Lib.hid (posAt_feed s n hls h10); clear h10
        obtain ⟨⟨l, c⟩, hp⟩ : ∃ p, p = posAt s n := ⟨_, rfl⟩
        rw [← hp] at HX bP hle
        clear hp
        simp only at HX bP hle
        have c0 : wr.cell? ⟨w.heap.size + 1, 0, none⟩ = some (.int .i64 l) := bP.cell 0
        have c1 : wr.cell? ⟨w.heap.size + 1, 1, none⟩ = some (.int .i64 c) := bP.cell 1
        have f0 : wr.frozen? ⟨w.heap.size + 1, 0, none⟩ = false := bP.frozen 0
        have f1 : wr.frozen? ⟨w.heap.size + 1, 1, none⟩ = false := bP.frozen 1
        go_wp2
        refine ⟨⟨n + 1, by omega, by go_num, ?_, ((bZ.far (p := ⟨w.heap.size + 1, 1, none⟩) (by show w.heap.size ≠ w.heap.size + 1; omega) _).far (p := ⟨w.heap.size + 1, 0, none⟩) (by show w.heap.size ≠ w.heap.size + 1; omega) _).far (p := ⟨w.heap.size + 1, 1, none⟩) (by show w.heap.size ≠ w.heap.size + 1; omega) _, ((HB.out.setCell (p := ⟨w.heap.size + 1, 1, none⟩) (by show w.heap.size ≤ w.heap.size + 1; omega) _).setCell (p := ⟨w.heap.size + 1, 0, none⟩) (by show w.heap.size ≤ w.heap.size + 1; omega) _).setCell (p := ⟨w.heap.size + 1, 1, none⟩) (by show w.heap.size ≤ w.heap.size + 1; omega) _⟩, by simp [intOf]; omega⟩
        rw [HX.out]
        exact ((bP.set_ 1 (.int .i64 (c + 1))).set_ 0 (.int .i64 (l + 1))).set_ 1 (.int .i64 1)
      · have h10' : (((gt s n).toNat : Int) == 10) = false := by
          rw [beq_eq_false_iff_ne]; intro e
          exact h10 (UInt8.toNat_inj.1 (by have : (gt s n).toNat = 10 := by omega
                                           rw [this]; rfl))
        have HX := Lib.hid (posAt_other s n hls h10); clear h10
        obtain ⟨⟨l, c⟩, hp⟩ : ∃ p, p = posAt s n := ⟨_, rfl⟩
        rw [← hp] at HX bP hle
        clear hp
        simp only at HX bP hle
        have c0 : wr.cell? ⟨w.heap.size + 1, 0, none⟩ = some (.int .i64 l) := bP.cell 0
        have c1 : wr.cell? ⟨w.heap.size + 1, 1, none⟩ = some (.int .i64 c) := bP.cell 1
        have f0 : wr.frozen? ⟨w.heap.size + 1, 0, none⟩ = false := bP.frozen 0
        have f1 : wr.frozen? ⟨w.heap.size + 1, 1, none⟩ = false := bP.frozen 1
        go_wp2
        refine ⟨⟨n + 1, by omega, by go_num, ?_, bZ.far (p := ⟨w.heap.size + 1, 1, none⟩) (by show w.heap.size ≠ w.heap.size + 1; omega) _, HB.out.setCell (p := ⟨w.heap.size + 1, 1, none⟩) (by show w.heap.size ≤ w.heap.size + 1; omega) _⟩, by simp [intOf]; omega⟩
        rw [HX.out]
        exact bP.set_ 1 (.int .i64 (c + 1))
    · obtain rfl : n = m := by omega
      obtain ⟨⟨l, c⟩, hp⟩ : ∃ p, p = posAt s n := ⟨_, rfl⟩
      rw [← hp] at HC bP
      clear hp
      simp only at HC bP
      have c0 : wr.cell? ⟨w.heap.size + 1, 0, none⟩ = some (.int .i64 l) := bP.cell 0
      have c1 : wr.cell? ⟨w.heap.size + 1, 1, none⟩ = some (.int .i64 c) := bP.cell 1
      have z0 : wr.cell? ⟨w.heap.size, 0, none⟩ = some (.int .i64 0) := bZ.cell 0
      have z1 : wr.cell? ⟨w.heap.size, 1, none⟩ = some (.int .i64 0) := bZ.cell 1
      have f0 : wr.frozen? ⟨w.heap.size, 0, none⟩ = false := bZ.frozen 0
      have f1 : wr.frozen? ⟨w.heap.size, 1, none⟩ = false := bZ.frozen 1
      go_wp2
      obtain ⟨bF, hF⟩ := store2 bZ HB.out (Nat.le_refl _) (.int .i64 l) (.int .i64 c)
      obtain ⟨W2, hW2⟩ : ∃ W2, W2 = (wr.setCell ⟨w.heap.size, 0, none⟩ (.int .i64 l)).setCell ⟨w.heap.size, 1, none⟩ (.int .i64 c) := ⟨_, rfl⟩
      rw [← hW2] at bF hF ⊢
      (try simp only [Exit.inBlock, Exit.then])
      refine bodyPost_ret (v := .tuple #[spotVal (l, c), .int .i64 0]) ?_ rfl (plPost_of HC.out rfl rfl rfl hF)
      have k0 := bF.cell 0
      have k1 := bF.cell 1
      simp at k0 k1
      simp [results, Try.f23, go_sem, k0, k1, spotVal]
end Go.Proofs.Ytfdcimkdhioepaa
