/-
  WALKS, seventh part: kinds of texts, names, gluing.
-/
import Derived.Test.YtkckmnipidpdeaaDoorWalkF
namespace Go.Proofs.YtkckmnipidpdeaaDoor
open Go.RowKit Mist
attribute [local go_sem] ofL_extract ofL_size ofL_get ofL_bytes ofL_append
/-- The place that mistref02.First hands back. -/
def fat (l : Bs) (a : Nat) : Int := if (first l).1 = 0 then 0 else a
theorem tokOf_eq (l : Bs) (a : Nat) : tokOf l a = .agg #[.int .u8 (first l).1, .string (ofL (first l).2), .int .i64 (fat l a)] := by
  unfold tokOf fat tokVal
  by_cases h : (first l).1 = 0
  · rw [if_pos h, if_pos h, first_zero l h, h]
  · rw [if_neg h, if_neg h]
theorem rfirst_val (l : Bs) (a : Nat) (w : World) (hl : l.length ≤ 100000000) (ha : a ≤ l.length) :
    Calls Tryd.prog 47 #[.string (ofL l), .int .i64 a] w fun e w' =>
      e = .returned (.agg #[.int .u8 (first (l.drop a)).1, .string (ofL (first (l.drop a)).2), .int .i64 (fat (l.drop a) a)]) ∧ Below w.heap.size w w' :=
  (rfirst_any l a w hl ha).mono fun e w' h => ⟨by rw [h.1, tokOf_eq], h.2⟩
theorem rfirst_zero (l : Bs) (w : World) (hl : l.length ≤ 100000000) :
    Calls Tryd.prog 47 #[.string (ofL l), .int .i64 0] w fun e w' =>
      e = .returned (.agg #[.int .u8 (first l).1, .string (ofL (first l).2), .int .i64 0]) ∧ Below w.heap.size w w' :=
  (rfirst_any l 0 w hl (Nat.zero_le _)).mono fun e w' h => ⟨by rw [h.1, tokOf_eq, List.drop_zero]; simp [fat], h.2⟩
theorem ret_kind {l : Bs} {a b : Int} (ha : a = kind l) (hb : b = kindErr l) : Ending.returned (.tuple #[.int .u8 a, .int .i64 b]) = .returned (.tuple #[.int .u8 (kind l), .int .i64 (kindErr l)]) := by
  rw [ha, hb]
theorem kind_cases (l : Bs) : ((((first l).1 : Int) == 0) = true ∧ kind l = 0 ∧ kindErr l = 4) ∨ ((((first l).1 : Int) == 0) = false ∧ ((first l).2 == l) = false ∧ kind l = 0 ∧ kindErr l = 4) ∨
    ((((first l).1 : Int) == 0) = false ∧ ((first l).2 == l) = true ∧ kind l = (first l).1 ∧ kindErr l = 0) := by
  by_cases h : (first l).1 = 0
  · have : kind l = 0 := by unfold kind; rw [h]; simp
    exact .inl ⟨by simp [h], this, by simp [kindErr, this]⟩
  · by_cases g : (first l).2 = l
    · have : kind l = (first l).1 := by unfold kind; rw [if_pos g]
      exact .inr (.inr ⟨by simp; omega, by simp [g], this, by simp [kindErr, this, h]⟩)
    · have : kind l = 0 := by unfold kind; rw [if_neg g]
      exact .inr (.inl ⟨by simp; omega, by simp [g], this, by simp [kindErr, this]⟩)
set_option maxHeartbeats 1000000 in
theorem kind_any (l : Bs) (w : World) (hE : Env w) (hl : l.length ≤ 100000000) :
    Calls Tryd.prog 24 #[.string (ofL l)] w fun e w' => e = .returned (.tuple #[.int .u8 (kind l), .int .i64 (kindErr l)]) ∧ Below w.heap.size w w' := by
  have HE := Lib.hid hE; clear hE
  rcases kind_cases l with ⟨h1, hk⟩ | ⟨h1, h2, hk⟩ | ⟨h1, h2, hk⟩
  all_goals
    have HK := Lib.hid hk; clear hk
    go_enter Tryd.func24, Tryd.ntmps24
    go_wp2_with (go_at_call 44; refine (first_any l _ HE.out hl).mono ?_; rintro e w' ⟨rfl, hb⟩)
    go_ret2
    exact ⟨ret_kind (by simp [HK.out.1]) (by simp [HK.out.2]), hb⟩
set_option maxHeartbeats 1000000 in
theorem rkind_any (l : Bs) (w : World) (hl : l.length ≤ 100000000) :
    Calls Tryd.prog 39 #[.string (ofL l)] w fun e w' => e = .returned (.tuple #[.int .u8 (kind l), .int .i64 (kindErr l)]) ∧ Below w.heap.size w w' := by
  rcases kind_cases l with ⟨h1, hk⟩ | ⟨h1, h2, hk⟩ | ⟨h1, h2, hk⟩
  case' inl => have h1' : (((first l).1 : Int) != 0) = false := by simpa using h1
  case' inr.inl => have h1' : (((first l).1 : Int) != 0) = true := by simpa using h1
  case' inr.inr => have h1' : (((first l).1 : Int) != 0) = true := by simpa using h1
  all_goals
    have HK := Lib.hid hk; clear hk
    go_enter Tryd.func39, Tryd.ntmps39
    go_wp2_with (go_at_call 47; refine (rfirst_zero l _ hl).mono ?_; rintro e w' ⟨rfl, hb⟩)
    go_ret2
    exact ⟨ret_kind (by simp [HK.out.1]) (by simp [HK.out.2]), hb.alloc hb.size _⟩
theorem kindErr_eq (l : Bs) : ((kindErr l : Int) == 0) = !((kind l : Int) == 0) := by
  rw [Bool.eq_iff_iff]; unfold kindErr; split <;> simp_all
theorem isName_cases (l : Bs) : (((kindErr l : Int) == 0) = true ∧ isName l = ((kind l : Int) == 1)) ∨ (((kindErr l : Int) == 0) = false ∧ isName l = false) := by
  rw [kindErr_eq]
  by_cases h : kind l = 0
  · exact .inr ⟨by simp [h], by simp [isName, h]⟩
  · refine .inl ⟨by simp [h], ?_⟩
    rw [Bool.eq_iff_iff, isName]; simp; omega
set_option maxHeartbeats 1000000 in
theorem isName_any (l : Bs) (w : World) (hE : Env w) (hl : l.length ≤ 100000000) :
    Calls Tryd.prog 25 #[.string (ofL l)] w fun e w' => e = .returned (.bool (isName l)) ∧ Below w.heap.size w w' := by
  have HE := Lib.hid hE; clear hE
  rcases isName_cases l with ⟨h1, hk⟩ | ⟨h1, hk⟩
  all_goals
    have HK := Lib.hid hk; clear hk
    go_enter Tryd.func25, Tryd.ntmps25
    go_wp2_with (go_at_call 24; refine (kind_any l _ HE.out hl).mono ?_; rintro e w' ⟨rfl, hb⟩)
    go_ret
    exact ⟨ret_bool HK.out.symm, hb⟩
set_option maxHeartbeats 1000000 in
theorem risName_any (l : Bs) (w : World) (hl : l.length ≤ 100000000) :
    Calls Tryd.prog 41 #[.string (ofL l)] w fun e w' => e = .returned (.bool (isName l)) ∧ Below w.heap.size w w' := by
  rcases isName_cases l with ⟨h1, hk⟩ | ⟨h1, hk⟩
  all_goals
    have HK := Lib.hid hk; clear hk
    go_enter Tryd.func41, Tryd.ntmps41
    go_wp2_with (go_at_call 39; refine (rkind_any l _ hl).mono ?_; rintro e w' ⟨rfl, hb⟩)
    go_ret
    exact ⟨ret_bool HK.out.symm, hb⟩
set_option maxHeartbeats 1000000 in
theorem glue_any (a b : Bs) (w : World) (hE : Env w) (hl : a.length + b.length ≤ 100000000) :
    Calls Tryd.prog 48 #[.string (ofL a), .string (ofL b)] w fun e w' => e = .returned (.bool (glue a b)) ∧ Below w.heap.size w w' := by
  have HE := Lib.hid hE; clear hE
  go_enter Tryd.func48, Tryd.ntmps48
  go_wp2_with (go_at_call 44; refine (first_any (a ++ b) _ HE.out (by simpa using hl)).mono ?_; rintro e w' ⟨rfl, hb⟩)
  go_ret
  exact ⟨ret_bool rfl, hb⟩
end Go.Proofs.YtkckmnipidpdeaaDoor
