/-
  WALKS of chapter 1, first part: bytes and texts, no memory: chars.valid, chars.Check, mistref01.Check, chars.within, chars.check.
-/
import Derived.Test.YtfdcimkdhioepaaProg
import Derived.Test.YtfdcimkdhioepaaPlain
import Derived.WalkKit
import Derived.WalkSpells
import Derived.WalkLawsBesides
import Derived.Handy
import Derived.Lib.Hide
import Derived.Below
import Derived.Deep.Draws
namespace Go.Proofs.Ytfdcimkdhioepaa
open Go.RowKit Mist
attribute [local go_sem] ofL_extract ofL_size ofL_get ofL_bytes
theorem ret_int {k : IntKind} {a b : Int} (h : a = b) : Ending.returned (.int k a) = .returned (.int k b) := by rw [h]
theorem ret_bool {a b : Bool} (h : a = b) : Ending.returned (.bool a) = .returned (.bool b) := by rw [h]
set_option maxHeartbeats 400000 in
theorem valid_any (b : UInt8) (w : World) :
    Calls Try.prog 40 #[.int .u8 b.toNat] w fun e w' => e = .returned (.bool (validB b)) ∧ w = w' := by
  go_enter Try.func40, Try.ntmps40
  go_wp2
  all_goals
    go_ret
    refine ⟨ret_bool ?_, rfl⟩
    rw [Bool.eq_iff_iff]
    simp [validB, UInt8.le_iff_toNat_le, ← UInt8.toNat_inj] <;> omega
theorem all_snoc (p : UInt8 → Bool) (l : Bs) (n : Nat) (h : n < l.length) (ha : ∀ c ∈ l.take n, p c = true) (hp : p (gt l n) = true) : ∀ c ∈ l.take (n + 1), p c = true := by
  rw [take_gt l n h]
  simp only [List.mem_append, List.mem_singleton]
  rintro c (hc | rfl)
  · exact ha c hc
  · exact hp
theorem ret_check {s : Bs} {a b : Nat} {x y : Int} (h : check s = (a, b)) (hx : x = a) (hy : y = b) : Ending.returned (.tuple #[.int .i64 x, .int .i64 y]) = .returned (.tuple #[.int .i64 (check s).1, .int .i64 (check s).2]) := by
  subst hx; subst hy; rw [h]
theorem take_all (p : UInt8 → Bool) (l : Bs) (n : Nat) (h : l.length ≤ n) (ha : ∀ c ∈ l.take n, p c = true) : ∀ c ∈ l, p c = true := by
  rwa [List.take_of_length_le h] at ha
set_option maxHeartbeats 400000 in
theorem check_any (l : Bs) (w : World) (hl : l.length ≤ 100000000) :
    Calls Try.prog 15 #[.string (ofL l)] w fun e w' => e = .returned (.tuple #[.int .i64 (check l).1, .int .i64 (check l).2]) ∧ w = w' := by
  by_cases h2 : 2000 < l.length
  · go_enter Try.func15, Try.ntmps15
    go_wp2
    go_ret2
    exact ⟨ret_check (check_long l h2) rfl rfl, rfl⟩
  · have h2 : l.length ≤ 2000 := Nat.le_of_not_lt h2
    go_enter Try.func15, Try.ntmps15
    go_wp2
    go_loop [10] (fun i => ∃ n : Nat, n ≤ l.length ∧ i = .int .i64 n ∧ (∀ c ∈ l.take n, validB c = true)) (fun i => l.length - (intOf i).toNat)
    case atStart => exact ⟨0, Nat.zero_le _, rfl, by simp⟩
    case round =>
      obtain ⟨n, hn, rfl, hall⟩ := hrel
      have HA := Lib.hid hall; clear hall
      by_cases hlt : n < l.length
      · go_wp2_with (go_at_call 40; refine (valid_any _ _).mono ?_; rintro e w' ⟨rfl, rfl⟩)
        · have hp : validB (gt l n) = false := by simpa using (by assumption : (!validB (gt l n)) = true)
          go_ret2
          exact ⟨ret_check (check_bad l n h2 hlt HA.out hp) rfl rfl, rfl⟩
        · have hp : validB (gt l n) = true := by simpa using (by assumption : (!validB (gt l n)) = false)
          exact ⟨⟨n + 1, by omega, by go_num, all_snoc _ _ _ hlt HA.out hp⟩, by simp [intOf]; omega⟩
      · go_wp2
        go_ret2
        exact ⟨ret_check (check_ok l h2 (take_all _ _ _ (by omega) HA.out)) rfl rfl, rfl⟩
theorem valid_yes {b : UInt8} (h : (b.toNat : Int) = 10 ∨ (32 ≤ (b.toNat : Int) ∧ (b.toNat : Int) ≤ 126)) : validB b = true := by
  simp [validB, UInt8.le_iff_toNat_le, ← UInt8.toNat_inj]; omega
theorem valid_no {b : UInt8} (h : ¬ (b.toNat : Int) = 10) (g : (b.toNat : Int) < 32 ∨ 126 < (b.toNat : Int)) : validB b = false := by
  simp [validB, UInt8.le_iff_toNat_le, ← UInt8.toNat_inj]; omega
set_option maxHeartbeats 400000 in
theorem rcheck_any (l : Bs) (w : World) (hl : l.length ≤ 100000000) :
    Calls Try.prog 18 #[.string (ofL l)] w fun e w' => e = .returned (.tuple #[.int .i64 (check l).1, .int .i64 (check l).2]) ∧ w = w' := by
  by_cases h2 : 2000 < l.length
  · go_enter Try.func18, Try.ntmps18
    go_wp2
    go_ret2
    exact ⟨ret_check (check_long l h2) rfl rfl, rfl⟩
  · have h2 : l.length ≤ 2000 := Nat.le_of_not_lt h2
    go_enter Try.func18, Try.ntmps18
    go_wp2
    go_loop [4] (fun i => ∃ n : Nat, n ≤ l.length ∧ i = .int .i64 n ∧ (∀ c ∈ l.take n, validB c = true)) (fun i => l.length - (intOf i).toNat)
    case atStart => exact ⟨0, Nat.zero_le _, rfl, by simp⟩
    case round =>
      obtain ⟨n, hn, rfl, hall⟩ := hrel
      have HA := Lib.hid hall; clear hall
      by_cases hlt : n < l.length
      · by_cases h10 : ((gt l n).toNat : Int) = 10
        · have hb : (((gt l n).toNat : Int) != 10) = false := by simp [h10]
          have H10 := Lib.hid h10; clear h10
          go_wp2
          exact ⟨⟨n + 1, by omega, by go_num, all_snoc _ _ _ hlt HA.out (valid_yes (.inl H10.out))⟩, by simp [intOf]; omega⟩
        · have hb : (((gt l n).toNat : Int) != 10) = true := by simp [h10]
          by_cases h32 : ((gt l n).toNat : Int) < 32
          · go_wp2
            go_ret2
            exact ⟨ret_check (check_bad l n h2 hlt HA.out (valid_no h10 (.inl h32))) rfl rfl, rfl⟩
          · by_cases h126 : 126 < ((gt l n).toNat : Int)
            · go_wp2
              go_ret2
              exact ⟨ret_check (check_bad l n h2 hlt HA.out (valid_no h10 (.inr h126))) rfl rfl, rfl⟩
            · go_wp2
              exact ⟨⟨n + 1, by omega, by go_num, all_snoc _ _ _ hlt HA.out (valid_yes (.inr (by omega)))⟩, by simp [intOf]; omega⟩
      · go_wp2
        go_ret2
        exact ⟨ret_check (check_ok l h2 (take_all _ _ _ (by omega) HA.out)) rfl rfl, rfl⟩
theorem within_any (n low high : Int) (w : World) :
    Calls Try.prog 48 #[.int .i64 n, .int .i64 low, .int .i64 high] w fun e w' => e = .returned (.bool (decide (low ≤ n ∧ n ≤ high))) ∧ w = w' := by
  by_cases h1 : low ≤ n
  · by_cases h2 : n ≤ high
    · go_enter Try.func48, Try.ntmps48
      go_wp2
      go_ret
      exact ⟨ret_bool (by simp [h1, h2]), rfl⟩
    · go_enter Try.func48, Try.ntmps48
      go_wp2
      go_ret
      exact ⟨ret_bool (by simp [h2]), rfl⟩
  · go_enter Try.func48, Try.ntmps48
    go_wp2
    go_ret
    exact ⟨ret_bool (by simp; omega), rfl⟩
/-- The first error of some texts. -/
def errAll : List Bs → Nat
  | [] => 0
  | l :: r => if (check l).2 ≠ 0 then (check l).2 else errAll r
theorem errAll_bad (ls : List Bs) (n : Nat) (h : n < ls.length) (k : (check (sg ls n)).2 ≠ 0) : errAll (ls.drop n) = (check (sg ls n)).2 := by
  rw [sg_eq ls n h] at k ⊢
  rw [List.drop_eq_getElem_cons h, errAll, if_pos k]
theorem errAll_ok (ls : List Bs) (n : Nat) (h : n < ls.length) (k : (check (sg ls n)).2 = 0) : errAll (ls.drop n) = errAll (ls.drop (n + 1)) := by
  rw [sg_eq ls n h] at k
  rw [List.drop_eq_getElem_cons h, errAll, if_neg (by simpa using k)]
set_option maxHeartbeats 800000 in
theorem chk_any (ls : List Bs) (g c : Nat) (w : World) (hls : ls.length ≤ 100) (hr : ∀ k, k < ls.length → w.cell? ⟨g, k, none⟩ = some (.string (ofL (sg ls k)))) (hl : ∀ k, k < ls.length → (sg ls k).length ≤ 100000000) :
    Calls Try.prog 41 #[.slice (some ⟨g, 0, none⟩) ls.length c] w fun e w' => e = .returned (.int .i64 (errAll ls)) ∧ w = w' := by
  have HR := Lib.hid hr; clear hr
  have HL := Lib.hid hl; clear hl
  go_enter Try.func41, Try.ntmps41
  go_wp2
  go_loop [9] (fun i => ∃ n : Nat, n ≤ ls.length ∧ i = .int .i64 n ∧ errAll ls = errAll (ls.drop n)) (fun i => ls.length - (intOf i).toNat)
  case atStart => exact ⟨0, Nat.zero_le _, rfl, rfl⟩
  case round =>
    obtain ⟨n, hn, rfl, hall⟩ := hrel
    have HA := Lib.hid hall; clear hall
    by_cases hlt : n < ls.length
    · have hc := HR.out n hlt
      by_cases hk : (check (sg ls n)).2 = 0
      · have hk' : (((check (sg ls n)).2 : Int) != 0) = false := by simp [hk]
        have HX := Lib.hid (errAll_ok ls n hlt hk); clear hk
        go_wp2_with (go_at_call 15; refine (check_any _ _ (HL.out n hlt)).mono ?_; rintro e w' ⟨rfl, rfl⟩)
        exact ⟨⟨n + 1, by omega, by go_num, HA.out.trans HX.out⟩, by simp [intOf]; omega⟩
      · have hk' : (((check (sg ls n)).2 : Int) != 0) = true := by simp; omega
        have HX := Lib.hid (errAll_bad ls n hlt hk); clear hk
        go_wp2_with (go_at_call 15; refine (check_any _ _ (HL.out n hlt)).mono ?_; rintro e w' ⟨rfl, rfl⟩)
        go_ret
        exact ⟨ret_int (by rw [HA.out, HX.out]), rfl⟩
    · have HX := Lib.hid (show errAll (ls.drop n) = 0 by rw [List.drop_eq_nil_of_le (by omega)]; rfl)
      go_wp2
      go_ret
      exact ⟨ret_int (by rw [HA.out, HX.out]; rfl), rfl⟩
end Go.Proofs.Ytfdcimkdhioepaa
