/-
  WALKS of chapter 1: mistref01.Clean.
-/
import Derived.Test.YtfdcimkdhioepaaCS
import Derived.Test.YtfdcimkdhioepaaCPlain6
namespace Go.Proofs.Ytfdcimkdhioepaa
open Go.RowKit Go.Shelf Mist
attribute [local go_sem] ofL_extract ofL_size ofL_get ofL_bytes ofL_append
theorem refClean_skip (s out : Bs) (c g : Bool) (n : Nat) (h : n < s.length) (k : gt s n = 35 ∨ (c = true ∧ gt s n ≠ 10)) : refClean out c g (s.drop n) = refClean out true g (s.drop (n + 1)) := by
  rw [drop_gt s n h, refClean, if_pos k]
theorem refClean_gap (s out : Bs) (c g : Bool) (n : Nat) (h : n < s.length) (k : ¬ (gt s n = 35 ∨ (c = true ∧ gt s n ≠ 10))) (k2 : gapB (gt s n) = true) : refClean out c g (s.drop n) = refClean out false true (s.drop (n + 1)) := by
  rw [drop_gt s n h, refClean, if_neg k, if_pos k2]
theorem refClean_put (s out : Bs) (c g : Bool) (n : Nat) (h : n < s.length) (k : ¬ (gt s n = 35 ∨ (c = true ∧ gt s n ≠ 10))) (k2 : ¬ gapB (gt s n) = true) : refClean out c g (s.drop n) = refClean (out ++ (if g = true ∧ out ≠ [] then [32] else []) ++ [gt s n]) false false (s.drop (n + 1)) := by
  rw [drop_gt s n h, refClean, if_neg k, if_neg k2]
theorem byte_eq (b : UInt8) (k : Nat) (hk : k < 256) (h : b = UInt8.ofNat k) : ((b.toNat : Int) == (k : Int)) = true := by
  subst h
  rw [UInt8.toNat_ofNat', Nat.mod_eq_of_lt (by omega)]; simp
theorem byte_ne (b : UInt8) (k : Nat) (h : ¬ b = UInt8.ofNat k) : ((b.toNat : Int) == (k : Int)) = false := by
  rw [beq_eq_false_iff_ne]; intro e
  refine h ?_
  have : b.toNat = k := by omega
  rw [← this, UInt8.ofNat_toNat]
theorem sub1 (s : Bs) (n : Nat) (h : n < s.length) : List.drop n (List.take (n + 1) s) = [gt s n] := by
  rw [take_gt s n h, List.drop_append_of_le_length (by rw [List.length_take]; omega), List.drop_of_length_le (by rw [List.length_take]; omega)]; rfl
def ClPost (s : Bs) (w : World) (e : Ending) (w' : World) : Prop := e = .returned (.tuple #[.string (ofL (cleanOf s).1), .int .i64 (cleanOf s).2]) ∧ Below w.heap.size w w'
theorem clPost_of {s : Bs} {r : Bs × Nat} {x : Bs} {y : Int} {w w' : World} (h : cleanOf s = r) (hx : x = r.1) (hy : y = r.2) (hb : Below w.heap.size w w') : ClPost s w (.returned (.tuple #[.string (ofL x), .int .i64 y])) w' := ⟨by rw [h, hx, hy], hb⟩
set_option maxRecDepth 100000 in
set_option maxHeartbeats 6400000 in
theorem rclean_any (s : Bs) (w : World) (hl : s.length ≤ 100000000) :
    Calls Try.prog 26 #[.string (ofL s)] w (ClPost s w) := by
  by_cases hc : (check s).2 = 0
  case neg =>
    have hc' : (((check s).2 : Int) != 0) = true := by simp; omega
    have HC := Lib.hid (cleanOf_bad s hc); clear hc
    go_enter Try.func26, Try.ntmps26
    go_wp2_with fail
    refine (rcheck_any s _ hl).mono ?_
    rintro e w' ⟨rfl, rfl⟩
    go_wp2
    go_ret2
    exact clPost_of HC.out rfl rfl (Below.refl _ _)
  have hc' : (((check s).2 : Int) != 0) = false := by simp [hc]
  have HC := Lib.hid (cleanOf_ref s hc); clear hc
  go_enter Try.func26, Try.ntmps26
  go_wp2_with fail
  refine (rcheck_any s _ hl).mono ?_
  rintro e w' ⟨rfl, rfl⟩
  go_wp2
  go_loopw [6, 7, 8, 9] (fun o c g i wr => ∃ (out : Bs) (cb gb : Bool) (n : Nat), n ≤ s.length ∧ out.length ≤ 2 * n ∧ i = .int .i64 n ∧ o = .string (ofL out) ∧ c = .bool cb ∧ g = .bool gb ∧ refClean [] false false s = refClean out cb gb (s.drop n) ∧ Below w.heap.size w wr) (fun _ _ _ i _ => s.length - (intOf i).toNat)
  case atStart => exact ⟨[], false, false, 0, Nat.zero_le _, Nat.zero_le _, rfl, rfl, rfl, rfl, rfl, Below.refl _ _⟩
  case round =>
    obtain ⟨out, cb, gb, n, hn, ho, rfl, rfl, rfl, rfl, hr, hb⟩ := hrel
    have HR := Lib.hid hr; clear hr
    have HB := Lib.hid hb; clear hb
    by_cases hlt : n < s.length
    · by_cases h35 : gt s n = 35
      · have e35 : (((gt s n).toNat : Int) == 35) = true := byte_eq _ 35 (by omega) h35
        have HX := Lib.hid (refClean_skip s out cb gb n hlt (.inl h35)); clear h35
        go_wp2
        exact ⟨⟨out, true, gb, n + 1, by omega, by omega, by go_num, rfl, rfl, rfl, by rw [HR.out, HX.out], HB.out⟩, by simp [intOf]; omega⟩
      have e35 : (((gt s n).toNat : Int) == 35) = false := byte_ne _ 35 h35
      by_cases h10 : gt s n = 10
      · have e10 : (((gt s n).toNat : Int) == 10) = true := byte_eq _ 10 (by omega) h10
        have f10 : (((gt s n).toNat : Int) != 10) = false := by rw [bne, e10]; rfl
        have HX := Lib.hid (refClean_gap s out cb gb n hlt (by rintro (h | ⟨_, h⟩); exact h35 h; exact h h10) (by rw [h10]; rfl)); clear h35 h10
        cases cb <;> go_wp2 <;>
        exact ⟨⟨out, false, true, n + 1, by omega, by omega, by go_num, rfl, rfl, rfl, by rw [HR.out, HX.out], HB.out⟩, by simp [intOf]; omega⟩
      have e10 : (((gt s n).toNat : Int) == 10) = false := byte_ne _ 10 h10
      have f10 : (((gt s n).toNat : Int) != 10) = true := by rw [bne, e10]; rfl
      cases cb with
      | true =>
        have HX := Lib.hid (refClean_skip s out true gb n hlt (.inr ⟨rfl, h10⟩)); clear h35 h10
        go_wp2
        exact ⟨⟨out, true, gb, n + 1, by omega, by omega, by go_num, rfl, rfl, rfl, by rw [HR.out, HX.out], HB.out⟩, by simp [intOf]; omega⟩
      | false =>
        have hno : ¬ (gt s n = 35 ∨ (false = true ∧ gt s n ≠ 10)) := by rintro (h | ⟨h, _⟩); exact h35 h; cases h
        by_cases h32 : gt s n = 32
        · have e32 : (((gt s n).toNat : Int) == 32) = true := byte_eq _ 32 (by omega) h32
          have HX := Lib.hid (refClean_gap s out false gb n hlt hno (by rw [h32]; rfl)); clear h35 h10 h32 hno
          go_wp2
          exact ⟨⟨out, false, true, n + 1, by omega, by omega, by go_num, rfl, rfl, rfl, by rw [HR.out, HX.out], HB.out⟩, by simp [intOf]; omega⟩
        have e32 : (((gt s n).toNat : Int) == 32) = false := byte_ne _ 32 h32
        have hg : ¬ gapB (gt s n) = true := by unfold gapB; simp [h32, h10]
        have HX := Lib.hid (refClean_put s out false gb n hlt hno hg); clear h35 h10 h32 hno hg
        have HS := Lib.hid (sub1 s n hlt)
        have hw1 : IntKind.i64.wrap ((n : Int) + 1) = (n : Int) + 1 := by rw [IntWalk.i64_in _ (by omega)]
        cases gb with
        | false =>
          have HX := Lib.hid (HX.out.trans (by rw [if_neg (by simp), List.append_nil]) : refClean out false false (s.drop n) = refClean (out ++ [gt s n]) false false (s.drop (n + 1)))
          go_wp2
          exact ⟨⟨out ++ [gt s n], false, false, n + 1, by omega, by rw [List.length_append, List.length_singleton]; omega, by go_num, by rw [HS.out], rfl, rfl, by rw [HR.out, HX.out], HB.out⟩, by simp [intOf]; omega⟩
        | true =>
          by_cases ho0 : out = []
          · subst ho0
            have HX := Lib.hid (HX.out.trans (by rw [if_neg (by simp), List.append_nil]) : refClean [] false true (s.drop n) = refClean ([] ++ [gt s n]) false false (s.drop (n + 1)))
            go_wp2
            exact ⟨⟨[] ++ [gt s n], false, false, n + 1, by omega, by simp; omega, by go_num, by rw [HS.out]; rfl, rfl, rfl, by rw [HR.out, HX.out], HB.out⟩, by simp [intOf]; omega⟩
          · have HX := Lib.hid (HX.out.trans (by rw [if_pos ⟨rfl, ho0⟩]) : refClean out false true (s.drop n) = refClean (out ++ [32] ++ [gt s n]) false false (s.drop (n + 1)))
            have ho1 : (out == []) = false := by rw [beq_eq_false_iff_ne]; exact ho0
            have ho2 : out.isEmpty = false := by cases out with | nil => exact absurd rfl ho0 | cons _ _ => rfl
            go_wp2
            exact ⟨⟨out ++ [32] ++ [gt s n], false, false, n + 1, by omega, by simp only [List.length_append, List.length_singleton]; omega, by go_num, by rw [HS.out, show (({ data := #[32] } : ByteArray)) = ofL [32] from rfl, ofL_append, ofL_append], rfl, rfl, by rw [HR.out, HX.out], HB.out⟩, by simp [intOf]; omega⟩
    · obtain rfl : n = s.length := by omega
      have HX := Lib.hid (show refClean out cb gb (s.drop s.length) = out by rw [List.drop_length, refClean])
      go_wp2
      go_ret2
      exact clPost_of HC.out (by rw [HR.out, HX.out]) rfl HB.out
end Go.Proofs.Ytfdcimkdhioepaa
