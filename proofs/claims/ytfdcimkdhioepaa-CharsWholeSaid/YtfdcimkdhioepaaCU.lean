/-
  WALKS of chapter 1: mistref01.Offset (each offset is tried).
-/
import Derived.Test.YtfdcimkdhioepaaCT
namespace Go.Proofs.Ytfdcimkdhioepaa
open Go.RowKit Go.Shelf Mist
attribute [local go_sem] ofL_extract ofL_size ofL_get ofL_bytes ofL_append
def OfPost (s : Bs) (line col : Int) (w : World) (e : Ending) (w' : World) : Prop := e = .returned (.tuple #[.int .i64 (offsetOf s line col).1, .int .i64 (offsetOf s line col).2]) ∧ Below w.heap.size w w'
theorem ofPost_of {s : Bs} {a b : Int} {r : Int × Nat} {x y : Int} {w w' : World} (h : offsetOf s a b = r) (hx : x = r.1) (hy : y = r.2) (hb : Below w.heap.size w w') : OfPost s a b w (.returned (.tuple #[.int .i64 x, .int .i64 y])) w' := ⟨by rw [h, hx, hy], hb⟩
theorem rplacew (s : Bs) (n : Nat) (l c : Nat) (w : World) (hl : s.length ≤ 100000000) (h : placeOf s n = (((l : Int), (c : Int)), 0)) :
    Calls Try.prog 23 #[.string (ofL s), .int .i64 n] w fun e w' => e = .returned (.tuple #[.agg #[.int .i64 l, .int .i64 c], .int .i64 0]) ∧ Below w.heap.size w w' := by
  refine (rplace_any s n w hl).mono ?_
  rintro e w' ⟨rfl, hb⟩
  rw [h]; exact ⟨rfl, hb⟩
set_option maxRecDepth 100000 in
set_option maxHeartbeats 3200000 in
theorem roffset_any (s : Bs) (line col : Int) (w : World) (hl : s.length ≤ 100000000) :
    Calls Try.prog 24 #[.string (ofL s), .agg #[.int .i64 line, .int .i64 col]] w (OfPost s line col w) := by
  have bA := Blk.new w 28 #[.int .i64 line, .int .i64 col]
  have hw1 : Below w.heap.size w (w.alloc (.cells #[.int .i64 line, .int .i64 col] 28)) := (Below.refl _ _).alloc (Nat.le_refl _) _
  by_cases hc : (check s).2 = 0
  case neg =>
    have hc' : (((check s).2 : Int) != 0) = true := by simp; omega
    have HC := Lib.hid (offsetOf_bad s line col hc); clear hc
    go_enter Try.func24, Try.ntmps24
    go_wp2_with fail
    refine (rcheck_any s _ hl).mono ?_
    rintro e w' ⟨rfl, rfl⟩
    go_wp2
    go_ret2
    exact ofPost_of HC.out rfl rfl hw1
  have hc' : (((check s).2 : Int) != 0) = false := by simp [hc]
  have HCK := Lib.hid hc; clear hc
  go_enter Try.func24, Try.ntmps24
  go_wp2_with fail
  refine (rcheck_any s _ hl).mono ?_
  rintro e w' ⟨rfl, rfl⟩
  go_wp2
  go_loopw [8] (fun i wr => ∃ n : Nat, n ≤ s.length + 1 ∧ i = .int .i64 n ∧ (∀ a, a < n → ¬ (((posAt s a).1 : Int) = line ∧ ((posAt s a).2 : Int) = col)) ∧ Blk wr w.heap.size 28 #[.int .i64 line, .int .i64 col] ∧ Below w.heap.size w wr) (fun i _ => s.length + 1 - (intOf i).toNat)
  case atStart => exact ⟨0, Nat.zero_le _, rfl, fun a h => absurd h (Nat.not_lt_zero a), bA, hw1⟩
  case round =>
    obtain ⟨n, hn, rfl, hno, bB, hb⟩ := hrel
    have HB := Lib.hid hb; clear hb
    have HN := Lib.hid hno; clear hno
    have hblt := bB.lt
    by_cases hlt : n ≤ s.length
    · have hle := posAt_le s n hlt
      have HPL := Lib.hid (placeOf_pos s n HCK.out hlt)
      have HIT := Lib.hid (offsetOf_hit s n HCK.out hlt)
      have HNX := Lib.hid (fun (h : ¬ (((posAt s n).1 : Int) = line ∧ ((posAt s n).2 : Int) = col)) a (ha : a < n + 1) => (if e : a = n then by rw [e]; exact h else HN.out a (by omega) : ¬ (((posAt s a).1 : Int) = line ∧ ((posAt s a).2 : Int) = col)))
      obtain ⟨⟨l, c⟩, hp⟩ : ∃ p, p = posAt s n := ⟨_, rfl⟩
      rw [← hp] at HPL HIT HNX hle
      clear hp
      simp only at HPL HIT HNX hle
      by_cases he : (l : Int) = line ∧ (c : Int) = col
      · obtain ⟨rfl, rfl⟩ := he
        go_wp2_with (go_at_call 23; refine (rplacew s n l c _ hl HPL.out).mono ?_; rintro e w1 ⟨rfl, hb1⟩; have bB1 := bB.below hb1 hblt; have bC := bB1.alloc (.cells #[.int .i64 l, .int .i64 c] 28); have HB1 := Lib.hid (HB.out.trans (hb1.mono HB.out.size)); clear hb1; have c0 := bC.cell 0; have c1 := bC.cell 1; simp at c0 c1)
        go_ret2
        exact ofPost_of HIT.out rfl rfl (HB1.out.alloc HB1.out.size _)
      · have HNE := Lib.hid (HNX.out he)
        go_wp2_with (go_at_call 23; refine (rplacew s n l c _ hl HPL.out).mono ?_; rintro e w1 ⟨rfl, hb1⟩; have bB1 := bB.below hb1 hblt; have bC := bB1.alloc (.cells #[.int .i64 l, .int .i64 c] 28); have HB1 := Lib.hid (HB.out.trans (hb1.mono HB.out.size)); clear hb1; have c0 := bC.cell 0; have c1 := bC.cell 1; simp at c0 c1)
        all_goals exact ⟨⟨n + 1, by omega, by go_num, HNE.out, bB1.alloc _, HB1.out.alloc HB1.out.size _⟩, by simp [intOf]; omega⟩
    · go_wp2
      go_ret2
      exact ofPost_of (offsetOf_none s line col HCK.out (fun a ha => HN.out a (by omega))) rfl rfl HB.out
end Go.Proofs.Ytfdcimkdhioepaa
