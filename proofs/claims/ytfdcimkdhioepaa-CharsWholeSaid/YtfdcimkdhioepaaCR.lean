/-
  WALKS of chapter 1: mistref01.Splice, Moved.
-/
import Derived.Test.YtfdcimkdhioepaaCQ
namespace Go.Proofs.Ytfdcimkdhioepaa
open Go.RowKit Go.Shelf Mist
attribute [local go_sem] ofL_extract ofL_size ofL_get ofL_bytes ofL_append
theorem err2_left {s t : Bs} (h : (check s).2 ≠ 0) : err2 s t = (check s).2 := by unfold err2; rw [if_pos h]
theorem err2_right {s t : Bs} (h : (check s).2 = 0) : err2 s t = (check t).2 := by unfold err2; rw [if_neg (by simpa using h)]
theorem splice_bad {s put : Bs} {a m : Int} {k : Nat} (h : patchErr s a m put = k) (hk : k ≠ 0) : spliceOf s a m put = ([], k) := by unfold spliceOf; rw [if_pos (by rw [h]; exact hk), h]
theorem patch_text {s put : Bs} {a m : Int} (h : err2 s put ≠ 0) : patchErr s a m put = err2 s put := by unfold patchErr; rw [if_pos h]
theorem patch_range {s put : Bs} {a m : Int} (h : err2 s put = 0) (k : ¬ ((0 ≤ a ∧ a ≤ (s.length : Int)) ∧ (0 ≤ m ∧ m ≤ (s.length : Int) - a))) : patchErr s a m put = 3 := by unfold patchErr; rw [if_neg (by simpa using h), if_neg k]
theorem patch_size {s put : Bs} {a m : Int} (h : err2 s put = 0) (k : (0 ≤ a ∧ a ≤ (s.length : Int)) ∧ (0 ≤ m ∧ m ≤ (s.length : Int) - a)) (z : 2000 < (s.length : Int) + ((put.length : Int) - m)) : patchErr s a m put = 5 := by unfold patchErr; rw [if_neg (by simpa using h), if_pos k, if_pos z]
theorem patch_fine {s put : Bs} {a m : Int} (h : err2 s put = 0) (k : (0 ≤ a ∧ a ≤ (s.length : Int)) ∧ (0 ≤ m ∧ m ≤ (s.length : Int) - a)) (z : ¬ 2000 < (s.length : Int) + ((put.length : Int) - m)) : patchErr s a m put = 0 := by unfold patchErr; rw [if_neg (by simpa using h), if_pos k, if_neg z]
def SplPost (s put : Bs) (a m : Int) (w : World) (e : Ending) (w' : World) : Prop := e = .returned (.tuple #[.string (ofL (spliceOf s a m put).1), .int .i64 (spliceOf s a m put).2]) ∧ Below w.heap.size w w'
theorem splPost_of {s put : Bs} {a m : Int} {r : Bs × Nat} {x : Bs} {y : Int} {w w' : World} (h : spliceOf s a m put = r) (hx : x = r.1) (hy : y = r.2) (hb : Below w.heap.size w w') : SplPost s put a m w (.returned (.tuple #[.string (ofL x), .int .i64 y])) w' := ⟨by rw [h, hx, hy], hb⟩
set_option maxRecDepth 100000 in
set_option maxHeartbeats 3200000 in
theorem rsplice_any (s put : Bs) (a m : Int) (w : World) (hs : s.length ≤ 100000000) (hp : put.length ≤ 100000000) :
    Calls Try.prog 32 #[.string (ofL s), .int .i64 a, .int .i64 m, .string (ofL put)] w (SplPost s put a m w) := by
  by_cases hc : (check s).2 = 0
  case neg =>
    have hc' : (((check s).2 : Int) != 0) = true := by simp; omega
    have HC := Lib.hid (splice_bad (a := a) (m := m) ((patch_text (s := s) (put := put) (by rw [err2_left hc]; exact hc)).trans (err2_left hc)) hc); clear hc
    go_enter Try.func32, Try.ntmps32
    go_wp2_with fail
    refine (rcheck_any s _ hs).mono ?_
    rintro e w' ⟨rfl, rfl⟩
    go_wp2_with fail
    go_ret2
    exact splPost_of HC.out rfl rfl (Below.refl _ _)
  have hc' : (((check s).2 : Int) != 0) = false := by simp [hc]
  by_cases hd : (check put).2 = 0
  case neg =>
    have hd' : (((check put).2 : Int) != 0) = true := by simp; omega
    have HC := Lib.hid (splice_bad (a := a) (m := m) ((patch_text (s := s) (put := put) (by rw [err2_right hc]; exact hd)).trans (err2_right hc)) hd); clear hc hd
    go_enter Try.func32, Try.ntmps32
    go_wp2_with fail
    refine (rcheck_any s _ hs).mono ?_
    rintro e w' ⟨rfl, rfl⟩
    go_wp2_with fail
    refine (rcheck_any put _ hp).mono ?_
    rintro e w' ⟨rfl, rfl⟩
    go_wp2_with fail
    go_ret2
    exact splPost_of HC.out rfl rfl (Below.refl _ _)
  have hd' : (((check put).2 : Int) != 0) = false := by simp [hd]
  have he : err2 s put = 0 := by rw [err2_right hc]; exact hd
  clear hc hd
  have hout : ∀ (_ : a < 0 ∨ (s.length : Int) < a ∨ m < 0 ∨ (0 ≤ a ∧ a ≤ (s.length : Int) ∧ (s.length : Int) - a < m)), Calls Try.prog 32 #[.string (ofL s), .int .i64 a, .int .i64 m, .string (ofL put)] w (SplPost s put a m w) := by
    intro h
    have HC := Lib.hid (splice_bad (patch_range (a := a) (m := m) he (by omega)) (by decide)); clear he
    rcases (by omega : a < 0 ∨ 0 ≤ a) with h1 | h1
    · clear h
      go_enter Try.func32, Try.ntmps32
      go_wp2_with fail
      refine (rcheck_any s _ hs).mono ?_
      rintro e w' ⟨rfl, rfl⟩
      go_wp2_with fail
      refine (rcheck_any put _ hp).mono ?_
      rintro e w' ⟨rfl, rfl⟩
      go_wp2_with fail
      go_ret2
      exact splPost_of HC.out rfl rfl (Below.refl _ _)
    · rcases (by omega : (s.length : Int) < a ∨ a ≤ (s.length : Int)) with h2 | h2
      · clear h
        go_enter Try.func32, Try.ntmps32
        go_wp2_with fail
        refine (rcheck_any s _ hs).mono ?_
        rintro e w' ⟨rfl, rfl⟩
        go_wp2_with fail
        refine (rcheck_any put _ hp).mono ?_
        rintro e w' ⟨rfl, rfl⟩
        go_wp2_with fail
        go_ret2
        exact splPost_of HC.out rfl rfl (Below.refl _ _)
      · rcases (by omega : m < 0 ∨ 0 ≤ m) with h3 | h3
        · clear h
          go_enter Try.func32, Try.ntmps32
          go_wp2_with fail
          refine (rcheck_any s _ hs).mono ?_
          rintro e w' ⟨rfl, rfl⟩
          go_wp2_with fail
          refine (rcheck_any put _ hp).mono ?_
          rintro e w' ⟨rfl, rfl⟩
          go_wp2_with fail
          go_ret2
          exact splPost_of HC.out rfl rfl (Below.refl _ _)
        · have h4 : (s.length : Int) - a < m := by omega
          clear h
          go_enter Try.func32, Try.ntmps32
          go_wp2_with fail
          refine (rcheck_any s _ hs).mono ?_
          rintro e w' ⟨rfl, rfl⟩
          go_wp2_with fail
          refine (rcheck_any put _ hp).mono ?_
          rintro e w' ⟨rfl, rfl⟩
          go_wp2_with fail
          go_ret2
          exact splPost_of HC.out rfl rfl (Below.refl _ _)
  by_cases hin : (0 ≤ a ∧ a ≤ (s.length : Int)) ∧ (0 ≤ m ∧ m ≤ (s.length : Int) - a)
  case neg => exact hout (by omega)
  clear hout
  obtain ⟨⟨h1, h2⟩, h3, h4⟩ := id hin
  obtain ⟨x, rfl⟩ : ∃ x : Nat, a = x := ⟨a.toNat, by omega⟩
  obtain ⟨y, rfl⟩ : ∃ y : Nat, m = y := ⟨m.toNat, by omega⟩
  by_cases hz : 2000 < (s.length : Int) + ((put.length : Int) - (y : Int))
  · have HC := Lib.hid (splice_bad (patch_size he hin hz) (by decide)); clear he hin
    have hz2 : (2000 : Int) < (s.length : Int) - (y : Int) + (put.length : Int) := by omega
    clear hz
    go_enter Try.func32, Try.ntmps32
    go_wp2_with fail
    refine (rcheck_any s _ hs).mono ?_
    rintro e w' ⟨rfl, rfl⟩
    go_wp2_with fail
    refine (rcheck_any put _ hp).mono ?_
    rintro e w' ⟨rfl, rfl⟩
    go_wp2_with fail
    go_ret2
    exact splPost_of HC.out rfl rfl (Below.refl _ _)
  · obtain ⟨z, hzz⟩ : ∃ z : Nat, z = x + y := ⟨_, rfl⟩
    have hok := patch_fine he hin hz
    have HC := Lib.hid (show spliceOf s x y put = (s.take x ++ put ++ s.drop z, 0) by
      unfold spliceOf; rw [if_neg (by simpa using hok), hzz, show ((x : Int) + (y : Int)).toNat = x + y by omega, Int.toNat_natCast]); clear hok he hin
    have hz2 : ¬ (2000 : Int) < (s.length : Int) - (y : Int) + (put.length : Int) := by omega
    clear hz
    have hxz : ((x : Int) + (y : Int)) = (z : Int) := by omega
    have hxs : x ≤ s.length := by omega
    have hzs : z ≤ s.length := by omega
    have HZ := Lib.hid hzz; clear hzz
    go_enter Try.func32, Try.ntmps32
    go_wp2_with fail
    refine (rcheck_any s _ hs).mono ?_
    rintro e w' ⟨rfl, rfl⟩
    go_wp2_with fail
    refine (rcheck_any put _ hp).mono ?_
    rintro e w' ⟨rfl, rfl⟩
    go_wp2_with fail
    go_quiet (fail)
    go_wp2
    go_ret2
    exact splPost_of HC.out (by rw [List.append_assoc]) rfl (bdrewN (Below.refl _ _) _)
end Go.Proofs.Ytfdcimkdhioepaa
