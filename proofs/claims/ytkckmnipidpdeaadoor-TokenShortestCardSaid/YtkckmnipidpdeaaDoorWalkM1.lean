/-
  WALKS: the law package's alone and gap.
-/
import Derived.Test.YtkckmnipidpdeaaDoorWalkT
import Derived.Test.YtkckmnipidpdeaaDoorPlain12
namespace Go.Proofs.YtkckmnipidpdeaaDoor
open Go.RowKit Mist
attribute [local go_sem] ofL_extract ofL_size ofL_get ofL_bytes ofL_append
def BoolPost (x : Bool) (w : World) (e : Ending) (w' : World) : Prop := e = .returned (.bool x) ∧ Below w.heap.size w w'
theorem boolPost_of {x y : Bool} {w w' : World} (h : x = y) (hb : Below w.heap.size w w') : BoolPost x w (.returned (.bool y)) w' := ⟨by rw [h], hb⟩
set_option maxRecDepth 100000 in
set_option maxHeartbeats 2000000 in
theorem alone_any (t : Tok) (w : World) :
    Calls Tryd.prog 53 #[.agg #[.int .u8 t.kind, .string (ofL t.text), .int .i64 t.at_]] w (BoolPost (aloneB t.text) w) := by
  obtain ⟨k, x, a⟩ := t
  show Calls Tryd.prog 53 #[.agg #[.int .u8 k, .string (ofL x), .int .i64 a]] w (BoolPost (aloneB x) w)
  rcases alone_cases x with ⟨h, hm⟩ | ⟨h, hm⟩
  · have H := Lib.hid h; clear h
    simp only [aloneSigns, List.mem_cons, List.not_mem_nil, or_false] at hm
    rcases hm with rfl | rfl | rfl | rfl | rfl | rfl | rfl | rfl | rfl | rfl | rfl
    all_goals
      go_enter Tryd.func53, Tryd.ntmps53
      go_wp2
      go_ret
      exact boolPost_of H.out ((Below.refl _ _).alloc (Nat.le_refl _) _)
  · have H := Lib.hid h; clear h
    simp only [aloneSigns, List.forall_mem_cons] at hm
    obtain ⟨h1, h2, h3, h4, h5, h6, h7, h8, h9, h10, h11, _⟩ := hm
    go_enter Tryd.func53, Tryd.ntmps53
    go_wp2
    go_ret
    exact boolPost_of H.out ((Below.refl _ _).alloc (Nat.le_refl _) _)
theorem run_gap (r : Nat) (h : r < 8) (w : World) : Sem.run Tryd.prog (Instr.index 84 (.agg #[.string ⟨#[32]⟩, .string ⟨#[10]⟩, .string ⟨#[32, 32]⟩, .string ⟨#[32, 35, 32, 120, 59, 32, 121, 10]⟩, .string ⟨#[35, 10]⟩, .string ⟨#[10, 10, 32]⟩, .string ⟨#[35, 32, 35, 32, 40, 10, 32]⟩, .string ⟨#[32, 32, 32]⟩]) (.int .u8 (r : Int))) w = .ok (.string (ofL (sg gapTexts r))) w := by
  obtain rfl | rfl | rfl | rfl | rfl | rfl | rfl | rfl : r = 0 ∨ r = 1 ∨ r = 2 ∨ r = 3 ∨ r = 4 ∨ r = 5 ∨ r = 6 ∨ r = 7 := by omega
  all_goals kernel_rfl
set_option maxRecDepth 100000 in
set_option maxHeartbeats 2000000 in
theorem gapw_any (b : Nat) (w : World) (hb : b < 256) :
    Calls Tryd.prog 37 #[.int .u8 b] w fun e w' => e = .returned (.string (ofL (gapOf b))) ∧ w = w' := by
  obtain ⟨r, hr⟩ : ∃ r, r = b % 8 := ⟨_, rfl⟩
  have hr8 : r < 8 := by omega
  have HG := Lib.hid (show gapOf b = sg gapTexts r by rw [hr]; rfl)
  have hm : Int.tmod (b : Int) 8 = (r : Int) := by rw [Int.tmod_eq_emod_of_nonneg (by omega), hr]; omega
  have hm2 : (b : Int) % 8 = (r : Int) := by rw [hr]; omega
  have hrun := run_gap r hr8 w
  clear hr
  go_enter Tryd.func37, Tryd.ntmps37
  go_wp2
  go_ret
  exact ⟨by rw [HG.out]; rfl, rfl⟩
end Go.Proofs.YtkckmnipidpdeaaDoor
