/-
  WALKS, second part: chars.Check, mistref01.Check, token.skip, mistref02.Gap, token.isNumber.
-/
import Derived.Test.YtpomgledekkjjaaDoorWalkA
namespace Go.Proofs.YtpomgledekkjjaaDoor
open Go.RowKit Mist
attribute [local go_sem] ofL_extract ofL_size ofL_get ofL_bytes
theorem ret_check {s : Bs} {a b : Nat} {x y : Int} (h : check s = (a, b)) (hx : x = a) (hy : y = b) : Ending.returned (.tuple #[.int .i64 x, .int .i64 y]) = .returned (.tuple #[.int .i64 (check s).1, .int .i64 (check s).2]) := by
  subst hx; subst hy; rw [h]
theorem take_all (p : UInt8 → Bool) (l : Bs) (n : Nat) (h : l.length ≤ n) (ha : ∀ c ∈ l.take n, p c = true) : ∀ c ∈ l, p c = true := by
  rwa [List.take_of_length_le h] at ha
theorem u8_of {b : UInt8} {k : Nat} (hk : k < 256) (e : (b.toNat : Int) = k) : b = UInt8.ofNat k := by
  apply UInt8.toNat_inj.1
  rw [UInt8.toNat_ofNat']
  omega
theorem u8_ne {b : UInt8} {k : Nat} (hk : k < 256) (e : ¬ (b.toNat : Int) = k) : b ≠ UInt8.ofNat k := by
  intro g
  apply e
  rw [g, UInt8.toNat_ofNat']
  omega
theorem beq_u8 {b : UInt8} {k : Int} (h : ((b.toNat : Int) == k) = true) : (b.toNat : Int) = k := beq_iff_eq.1 h
theorem bne_u8 {b : UInt8} {k : Int} (h : ((b.toNat : Int) == k) = false) : ¬ (b.toNat : Int) = k := by simpa using h
set_option maxHeartbeats 400000 in
theorem check_any (l : Bs) (w : World) (hl : l.length ≤ 100000000) :
    Calls Tryd.prog 15 #[.string (ofL l)] w fun e w' => e = .returned (.tuple #[.int .i64 (check l).1, .int .i64 (check l).2]) ∧ w = w' := by
  by_cases h2 : 2000 < l.length
  · go_enter Tryd.func15, Tryd.ntmps15
    go_wp2
    go_ret2
    exact ⟨ret_check (check_long l h2) rfl rfl, rfl⟩
  · have h2 : l.length ≤ 2000 := Nat.le_of_not_lt h2
    go_enter Tryd.func15, Tryd.ntmps15
    go_wp2
    go_loop [10] (fun i => ∃ n : Nat, n ≤ l.length ∧ i = .int .i64 n ∧ (∀ c ∈ l.take n, validB c = true)) (fun i => l.length - (intOf i).toNat)
    case atStart => exact ⟨0, Nat.zero_le _, rfl, by simp⟩
    case round =>
      obtain ⟨n, hn, rfl, hall⟩ := hrel
      have HA := Lib.hid hall; clear hall
      by_cases hlt : n < l.length
      · go_wp2_with (go_at_call 23; refine (valid_any _ _).mono ?_; rintro e w' ⟨rfl, rfl⟩)
        · have hp : validB (gt l n) = false := by simpa using (by assumption : (!validB (gt l n)) = true)
          go_ret2
          exact ⟨ret_check (check_bad l n h2 hlt HA.out hp) rfl rfl, rfl⟩
        · have hp : validB (gt l n) = true := by simpa using (by assumption : (!validB (gt l n)) = false)
          exact ⟨⟨n + 1, by omega, by go_num, all_snoc _ _ _ hlt HA.out hp⟩, by simp [intOf]; omega⟩
      · go_wp2
        go_ret2
        exact ⟨ret_check (check_ok l h2 (take_all _ _ _ (by omega) HA.out)) rfl rfl, rfl⟩
theorem valid_yes {b : UInt8} (h : (b.toNat : Int) = 10 ∨ (32 ≤ (b.toNat : Int) ∧ (b.toNat : Int) ≤ 126)) : validB b = true := by
  simp [validB, UInt8.le_iff_toNat_le, ← UInt8.toNat_inj]; omega
theorem valid_no {b : UInt8} (h : ¬ (b.toNat : Int) = 10) (g : (b.toNat : Int) < 32 ∨ 126 < (b.toNat : Int)) : validB b = false := by
  simp [validB, UInt8.le_iff_toNat_le, ← UInt8.toNat_inj]; omega
set_option maxHeartbeats 400000 in
theorem skip_any (l : Bs) (w : World) (hl : l.length ≤ 100000000) :
    Calls Tryd.prog 16 #[.string (ofL l)] w fun e w' => e = .returned (.int .i64 (skip l)) ∧ w = w' := by
  go_enter Tryd.func16, Tryd.ntmps16
  go_wp2
  go_loop [3] (fun i => ∃ n : Nat, n ≤ l.length ∧ i = .int .i64 n ∧ skip l = n + skip (l.drop n)) (fun i => l.length - (intOf i).toNat)
  case atStart => exact ⟨0, Nat.zero_le _, rfl, by simp⟩
  case round =>
    obtain ⟨n, hn, rfl, hsk⟩ := hrel
    have HA := Lib.hid hsk; clear hsk
    by_cases hlt : n < l.length
    · have hwl : while_ noFeed (l.drop n) ≤ l.length - n := by have := while_le noFeed (l.drop n); simpa using this
      go_wp2_with (first
        | (go_at_call 24; refine (gap_any _ _).mono ?_; rintro e w' ⟨rfl, rfl⟩)
        | (go_at_call 25; refine (while_nofeed (l.drop n) _ (by simp; omega)).mono ?_; rintro e w' ⟨rfl, rfl⟩))
      · have hg : gapB (gt l n) = true := by assumption
        exact ⟨⟨n + 1, by omega, by go_num, by have := HA.out; have := skip_gap l n hlt hg; omega⟩, by simp [intOf]; omega⟩
      · have hh : gt l n = 35 := u8_of (k := 35) (by omega) (beq_u8 (by assumption))
        have hpos := skip_hash_pos l n hlt hh
        exact ⟨⟨n + while_ noFeed (l.drop n), by omega, by go_num, by have := HA.out; have := skip_hash l n hlt hh; omega⟩, by simp [intOf]; omega⟩
      · have hg : gapB (gt l n) = false := by assumption
        have hh : gt l n ≠ 35 := u8_ne (k := 35) (by omega) (bne_u8 (by assumption))
        go_ret
        exact ⟨ret_int (by have := HA.out; have := skip_stop l n hlt hg hh; omega), rfl⟩
    · go_wp2
      go_ret
      exact ⟨ret_int (by have := HA.out; have := skip_end l n (by omega); omega), rfl⟩
theorem isNumber_eq (l : Bs) : isNumber l = (decide (l.length ≤ 4) && (l.length == 1 || ((gt l 0).toNat : Int) != 48)) := by
  have : (gt l 0 != 48) = (((gt l 0).toNat : Int) != 48) := by
    rw [Bool.eq_iff_iff]
    simp [← UInt8.toNat_inj]
    omega
  rw [isNumber, this]
set_option maxHeartbeats 400000 in
theorem isNumber_any (l : Bs) (w : World) (hl : l.length ≤ 100000000) (h0 : 0 < l.length) :
    Calls Tryd.prog 32 #[.string (ofL l)] w fun e w' => e = .returned (.bool (isNumber l)) ∧ w = w' := by
  have HE := Lib.hid (isNumber_eq l)
  by_cases h4 : l.length ≤ 4
  · by_cases h1 : ((l.length : Int) == 1) = true
    · go_enter Tryd.func32, Tryd.ntmps32
      go_wp2
      go_ret
      refine ⟨ret_bool ?_, rfl⟩
      rw [HE.out]
      simp at h1
      simp; omega
    · have h1' : ((l.length : Int) == 1) = false := by simpa using h1
      clear h1
      go_enter Tryd.func32, Tryd.ntmps32
      go_wp2
      go_ret
      refine ⟨ret_bool ?_, rfl⟩
      rw [HE.out]
      simp at h1'
      simp [h4]; omega
  · go_enter Tryd.func32, Tryd.ntmps32
    go_wp2
    go_ret
    refine ⟨ret_bool ?_, rfl⟩
    rw [HE.out]
    simp; omega
end Go.Proofs.YtpomgledekkjjaaDoor
