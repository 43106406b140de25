/-
  WALKS of chapters 1 and 2, first part: bytes and texts, no memory.
-/
import Derived.Test.YtpomgledekkjjaaDoorProg
import Derived.Test.YtpomgledekkjjaaDoorPlain
import Derived.WalkKit
import Derived.WalkSpells
import Derived.WalkLawsBesides
import Derived.Handy
import Derived.Lib.Hide
namespace Go.Proofs.YtpomgledekkjjaaDoor
open Go.RowKit Mist
attribute [local go_sem] ofL_extract ofL_size ofL_get ofL_bytes

theorem ret_int {k : IntKind} {a b : Int} (h : a = b) : Ending.returned (.int k a) = .returned (.int k b) := by rw [h]
theorem ret_bool {a b : Bool} (h : a = b) : Ending.returned (.bool a) = .returned (.bool b) := by rw [h]
theorem u8_beq (b : UInt8) (n : Nat) (hn : n < 256) : ((b.toNat : Int) == (n : Int)) = (b == UInt8.ofNat n) := by
  rw [Bool.eq_iff_iff]
  simp only [beq_iff_eq, ← UInt8.toNat_inj, UInt8.toNat_ofNat']
  omega
set_option maxHeartbeats 400000 in
theorem valid_any (b : UInt8) (w : World) :
    Calls Tryd.prog 23 #[.int .u8 b.toNat] w fun e w' => e = .returned (.bool (validB b)) ∧ w = w' := by
  go_enter Tryd.func23, Tryd.ntmps23
  go_wp2
  all_goals
    go_ret
    refine ⟨ret_bool ?_, rfl⟩
    rw [Bool.eq_iff_iff]
    simp [validB, UInt8.le_iff_toNat_le, ← UInt8.toNat_inj] <;> omega
set_option maxHeartbeats 400000 in
theorem gap_any (b : UInt8) (w : World) :
    Calls Tryd.prog 24 #[.int .u8 b.toNat] w fun e w' => e = .returned (.bool (gapB b)) ∧ w = w' := by
  go_enter Tryd.func24, Tryd.ntmps24
  go_wp2
  all_goals
    go_ret
    refine ⟨ret_bool ?_, rfl⟩
    rw [Bool.eq_iff_iff]
    simp [gapB, ← UInt8.toNat_inj] <;> omega
set_option maxHeartbeats 400000 in
theorem nofeed_any (b : UInt8) (w : World) :
    Calls Tryd.prog 26 #[.int .u8 b.toNat] w fun e w' => e = .returned (.bool (noFeed b)) ∧ w = w' := by
  go_enter Tryd.func26, Tryd.ntmps26
  go_wp2
  all_goals
    go_ret
    refine ⟨ret_bool ?_, rfl⟩
    rw [Bool.eq_iff_iff]
    simp [noFeed, ← UInt8.toNat_inj] <;> omega
set_option maxHeartbeats 400000 in
theorem small_any (b : UInt8) (w : World) :
    Calls Tryd.prog 27 #[.int .u8 b.toNat] w fun e w' => e = .returned (.bool (smallB b)) ∧ w = w' := by
  go_enter Tryd.func27, Tryd.ntmps27
  go_wp2
  all_goals
    go_ret
    refine ⟨ret_bool ?_, rfl⟩
    rw [Bool.eq_iff_iff]
    simp [smallB, UInt8.le_iff_toNat_le] <;> omega
set_option maxHeartbeats 400000 in
theorem digit_any (b : UInt8) (w : World) :
    Calls Tryd.prog 31 #[.int .u8 b.toNat] w fun e w' => e = .returned (.bool (digitB b)) ∧ w = w' := by
  go_enter Tryd.func31, Tryd.ntmps31
  go_wp2
  all_goals
    go_ret
    refine ⟨ret_bool ?_, rfl⟩
    rw [Bool.eq_iff_iff]
    simp [digitB, UInt8.le_iff_toNat_le] <;> omega
set_option maxHeartbeats 400000 in
theorem part_any (b : UInt8) (w : World) :
    Calls Tryd.prog 28 #[.int .u8 b.toNat] w fun e w' => e = .returned (.bool (partB b)) ∧ w = w' := by
  go_enter Tryd.func28, Tryd.ntmps28
  go_wp2
  all_goals
    go_ret
    refine ⟨ret_bool ?_, rfl⟩
    rw [Bool.eq_iff_iff]
    simp [partB, smallB, digitB, UInt8.le_iff_toNat_le] <;> omega
theorem while_eq (p : UInt8 → Bool) (l : Bs) (n : Nat) (h : n ≤ l.length) (ha : ∀ c ∈ l.take n, p c = true) (he : n = l.length ∨ n < l.length ∧ p (gt l n) = false) : while_ p l = n := by
  unfold while_
  have h1 : l = l.take n ++ l.drop n := (List.take_append_drop n l).symm
  rw [h1, List.takeWhile_append_of_pos ha]
  have h2 : (l.drop n).takeWhile p = [] := by
    rcases he with rfl | ⟨hn, hf⟩
    · simp
    · rw [drop_gt l n hn, List.takeWhile_cons, hf]; rfl
  rw [h2]; simp; omega
theorem all_snoc (p : UInt8 → Bool) (l : Bs) (n : Nat) (h : n < l.length) (ha : ∀ c ∈ l.take n, p c = true) (hp : p (gt l n) = true) : ∀ c ∈ l.take (n + 1), p c = true := by
  rw [take_gt l n h]
  simp only [List.mem_append, List.mem_singleton]
  rintro c (hc | rfl)
  · exact ha c hc
  · exact hp
set_option maxHeartbeats 400000 in
theorem while_part (l : Bs) (w : World) (hl : l.length ≤ 100000000) :
    Calls Tryd.prog 25 #[.string (ofL l), .func (.func 28) #[] #[]] w fun e w' => e = .returned (.int .i64 (while_ partB l)) ∧ w = w' := by
  go_enter Tryd.func25, Tryd.ntmps25
  go_wp2
  go_loop [5] (fun i => ∃ n : Nat, n ≤ l.length ∧ i = .int .i64 n ∧ (∀ c ∈ l.take n, partB c = true)) (fun i => l.length - (intOf i).toNat)
  case atStart => exact ⟨0, Nat.zero_le _, rfl, by simp⟩
  case round =>
    obtain ⟨n, hn, rfl, hall⟩ := hrel
    have HA := Lib.hid hall; clear hall
    by_cases hlt : n < l.length
    · go_wp2_with (go_at_call 28; refine (part_any _ _).mono ?_; rintro e w' ⟨rfl, rfl⟩)
      · have hp : partB (gt l n) = true := by assumption
        exact ⟨⟨n + 1, by omega, by go_num, all_snoc _ _ _ hlt HA.out hp⟩, by simp [intOf]; omega⟩
      · have hp : partB (gt l n) = false := by assumption
        go_ret
        exact ⟨ret_int (by rw [while_eq _ _ _ hn HA.out (.inr ⟨hlt, hp⟩)]), rfl⟩
    · go_wp2
      go_ret
      exact ⟨ret_int (by rw [while_eq _ _ _ hn HA.out (.inl (by omega))]), rfl⟩
set_option maxHeartbeats 400000 in
theorem while_digit (l : Bs) (w : World) (hl : l.length ≤ 100000000) :
    Calls Tryd.prog 25 #[.string (ofL l), .func (.func 31) #[] #[]] w fun e w' => e = .returned (.int .i64 (while_ digitB l)) ∧ w = w' := by
  go_enter Tryd.func25, Tryd.ntmps25
  go_wp2
  go_loop [5] (fun i => ∃ n : Nat, n ≤ l.length ∧ i = .int .i64 n ∧ (∀ c ∈ l.take n, digitB c = true)) (fun i => l.length - (intOf i).toNat)
  case atStart => exact ⟨0, Nat.zero_le _, rfl, by simp⟩
  case round =>
    obtain ⟨n, hn, rfl, hall⟩ := hrel
    have HA := Lib.hid hall; clear hall
    by_cases hlt : n < l.length
    · go_wp2_with (go_at_call 31; refine (digit_any _ _).mono ?_; rintro e w' ⟨rfl, rfl⟩)
      · have hp : digitB (gt l n) = true := by assumption
        exact ⟨⟨n + 1, by omega, by go_num, all_snoc _ _ _ hlt HA.out hp⟩, by simp [intOf]; omega⟩
      · have hp : digitB (gt l n) = false := by assumption
        go_ret
        exact ⟨ret_int (by rw [while_eq _ _ _ hn HA.out (.inr ⟨hlt, hp⟩)]), rfl⟩
    · go_wp2
      go_ret
      exact ⟨ret_int (by rw [while_eq _ _ _ hn HA.out (.inl (by omega))]), rfl⟩
set_option maxHeartbeats 400000 in
theorem while_nofeed (l : Bs) (w : World) (hl : l.length ≤ 100000000) :
    Calls Tryd.prog 25 #[.string (ofL l), .func (.func 26) #[] #[]] w fun e w' => e = .returned (.int .i64 (while_ noFeed l)) ∧ w = w' := by
  go_enter Tryd.func25, Tryd.ntmps25
  go_wp2
  go_loop [5] (fun i => ∃ n : Nat, n ≤ l.length ∧ i = .int .i64 n ∧ (∀ c ∈ l.take n, noFeed c = true)) (fun i => l.length - (intOf i).toNat)
  case atStart => exact ⟨0, Nat.zero_le _, rfl, by simp⟩
  case round =>
    obtain ⟨n, hn, rfl, hall⟩ := hrel
    have HA := Lib.hid hall; clear hall
    by_cases hlt : n < l.length
    · go_wp2_with (go_at_call 26; refine (nofeed_any _ _).mono ?_; rintro e w' ⟨rfl, rfl⟩)
      · have hp : noFeed (gt l n) = true := by assumption
        exact ⟨⟨n + 1, by omega, by go_num, all_snoc _ _ _ hlt HA.out hp⟩, by simp [intOf]; omega⟩
      · have hp : noFeed (gt l n) = false := by assumption
        go_ret
        exact ⟨ret_int (by rw [while_eq _ _ _ hn HA.out (.inr ⟨hlt, hp⟩)]), rfl⟩
    · go_wp2
      go_ret
      exact ⟨ret_int (by rw [while_eq _ _ _ hn HA.out (.inl (by omega))]), rfl⟩
end Go.Proofs.YtpomgledekkjjaaDoor
