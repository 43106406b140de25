/-
  WALKS, seventh part: kinds of texts, names, gluing.
-/
import Derived.Test.YtpomgledekkjjaaDoorWalkF
namespace Go.Proofs.YtpomgledekkjjaaDoor
open Go.RowKit Mist
attribute [local go_sem] ofL_extract ofL_size ofL_get ofL_bytes ofL_append
/-- The place that mistref02.First hands back. -/
def fat (l : Bs) (a : Nat) : Int := if (first l).1 = 0 then 0 else a
theorem tokOf_eq (l : Bs) (a : Nat) : tokOf l a = .agg #[.int .u8 (first l).1, .string (ofL (first l).2), .int .i64 (fat l a)] := by
  unfold tokOf fat tokVal
  by_cases h : (first l).1 = 0
  · rw [if_pos h, if_pos h, first_zero l h, h]
  · rw [if_neg h, if_neg h]
theorem ret_kind {l : Bs} {a b : Int} (ha : a = kind l) (hb : b = kindErr l) : Ending.returned (.tuple #[.int .u8 a, .int .i64 b]) = .returned (.tuple #[.int .u8 (kind l), .int .i64 (kindErr l)]) := by
  rw [ha, hb]
theorem kind_cases (l : Bs) : ((((first l).1 : Int) == 0) = true ∧ kind l = 0 ∧ kindErr l = 4) ∨ ((((first l).1 : Int) == 0) = false ∧ ((first l).2 == l) = false ∧ kind l = 0 ∧ kindErr l = 4) ∨
    ((((first l).1 : Int) == 0) = false ∧ ((first l).2 == l) = true ∧ kind l = (first l).1 ∧ kindErr l = 0) := by
  by_cases h : (first l).1 = 0
  · have : kind l = 0 := by unfold kind; rw [h]; simp
    exact .inl ⟨by simp [h], this, by simp [kindErr, this]⟩
  · by_cases g : (first l).2 = l
    · have : kind l = (first l).1 := by unfold kind; rw [if_pos g]
      exact .inr (.inr ⟨by simp; omega, by simp [g], this, by simp [kindErr, this, h]⟩)
    · have : kind l = 0 := by unfold kind; rw [if_neg g]
      exact .inr (.inl ⟨by simp; omega, by simp [g], this, by simp [kindErr, this]⟩)
set_option maxHeartbeats 1000000 in
theorem kind_any (l : Bs) (w : World) (hE : Env w) (hl : l.length ≤ 100000000) :
    Calls Tryd.prog 18 #[.string (ofL l)] w fun e w' => e = .returned (.tuple #[.int .u8 (kind l), .int .i64 (kindErr l)]) ∧ Below w.heap.size w w' := by
  have HE := Lib.hid hE; clear hE
  rcases kind_cases l with ⟨h1, hk⟩ | ⟨h1, h2, hk⟩ | ⟨h1, h2, hk⟩
  all_goals
    have HK := Lib.hid hk; clear hk
    go_enter Tryd.func18, Tryd.ntmps18
    go_wp2_with (go_at_call 17; refine (first_any l _ HE.out hl).mono ?_; rintro e w' ⟨rfl, hb⟩)
    go_ret2
    exact ⟨ret_kind (by simp [HK.out.1]) (by simp [HK.out.2]), hb⟩
theorem kindErr_eq (l : Bs) : ((kindErr l : Int) == 0) = !((kind l : Int) == 0) := by
  rw [Bool.eq_iff_iff]; unfold kindErr; split <;> simp_all
theorem isName_cases (l : Bs) : (((kindErr l : Int) == 0) = true ∧ isName l = ((kind l : Int) == 1)) ∨ (((kindErr l : Int) == 0) = false ∧ isName l = false) := by
  rw [kindErr_eq]
  by_cases h : kind l = 0
  · exact .inr ⟨by simp [h], by simp [isName, h]⟩
  · refine .inl ⟨by simp [h], ?_⟩
    rw [Bool.eq_iff_iff, isName]; simp; omega
set_option maxHeartbeats 1000000 in
theorem isName_any (l : Bs) (w : World) (hE : Env w) (hl : l.length ≤ 100000000) :
    Calls Tryd.prog 13 #[.string (ofL l)] w fun e w' => e = .returned (.bool (isName l)) ∧ Below w.heap.size w w' := by
  have HE := Lib.hid hE; clear hE
  rcases isName_cases l with ⟨h1, hk⟩ | ⟨h1, hk⟩
  all_goals
    have HK := Lib.hid hk; clear hk
    go_enter Tryd.func13, Tryd.ntmps13
    go_wp2_with (go_at_call 18; refine (kind_any l _ HE.out hl).mono ?_; rintro e w' ⟨rfl, hb⟩)
    go_ret
    exact ⟨ret_bool HK.out.symm, hb⟩
set_option maxHeartbeats 1000000 in
theorem glue_any (a b : Bs) (w : World) (hE : Env w) (hl : a.length + b.length ≤ 100000000) :
    Calls Tryd.prog 19 #[.string (ofL a), .string (ofL b)] w fun e w' => e = .returned (.bool (glue a b)) ∧ Below w.heap.size w w' := by
  have HE := Lib.hid hE; clear hE
  go_enter Tryd.func19, Tryd.ntmps19
  go_wp2_with (go_at_call 17; refine (first_any (a ++ b) _ HE.out (by simpa using hl)).mono ?_; rintro e w' ⟨rfl, hb⟩)
  go_ret
  exact ⟨ret_bool rfl, hb⟩
end Go.Proofs.YtpomgledekkjjaaDoor
