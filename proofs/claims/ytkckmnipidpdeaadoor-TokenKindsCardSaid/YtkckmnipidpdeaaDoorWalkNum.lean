/-
  WALKS: token.Number and mistref02.Number.
-/
import Derived.Test.YtkckmnipidpdeaaDoorWalkG
import Derived.Test.YtkckmnipidpdeaaDoorAtoi
import Derived.Test.YtkckmnipidpdeaaDoorPlain10
import Derived.Lib.AtoiErrMem
namespace Go.Proofs.YtkckmnipidpdeaaDoor
open Go.RowKit Mist
attribute [local go_sem] ofL_extract ofL_size ofL_get ofL_bytes ofL_append
def NumPost (l : Bs) (w : World) (e : Ending) (w' : World) : Prop := e = .returned (.tuple #[.int .i64 (numberOf l).1, .int .i64 (numberOf l).2]) ∧ Below w.heap.size w w'
theorem numPost_of {l : Bs} {w w' : World} {x y : Int} {p q : Nat} (h : numberOf l = (p, q)) (hx : x = p) (hy : y = q) (hb : Below w.heap.size w w') : NumPost l w (.returned (.tuple #[.int .i64 x, .int .i64 y])) w' := by
  subst hx; subst hy; exact ⟨by rw [h], hb⟩
theorem atoi_any (l : Bs) (w : World) (h : kind l = 2) :
    Calls Tryd.prog 62 #[.string (ofL l)] w fun e w' => e = .returned (.tuple #[.int .i64 (numOf l), .nilIface]) ∧ Below w.heap.size w w' := by
  obtain ⟨h1, h2, h3⟩ := kind_two l h
  refine (Tryd.strconv_Atoi_ok (ofL l) (by rw [ofL_size]; omega) (numOf l) (by rw [show (ofL l).data.toList = l by simp [ofL]]; exact atoi_digits l h3 h1 h2) w).mono ?_
  rintro e w' ⟨rfl, hw⟩
  refine ⟨rfl, ?_⟩
  rcases hw with rfl | ⟨t, rfl⟩
  · exact Below.refl _ _
  · exact Lib.bytesWorld_below w _ t
theorem kindErr_bad2 (s : Bs) (h : kind s = 0) : kindErr s = 4 := by unfold kindErr; rw [if_pos h]
theorem kindErr_ok (s : Bs) (h : ¬ kind s = 0) : kindErr s = 0 := by unfold kindErr; rw [if_neg h]
set_option maxRecDepth 100000 in
set_option maxHeartbeats 2000000 in
theorem number_any (l : Bs) (w : World) (hE : Env w) (hl : l.length ≤ 100000000) :
    Calls Tryd.prog 38 #[.string (ofL l)] w (NumPost l w) := by
  have HE := Lib.hid hE; clear hE
  by_cases h0 : kind l = 0
  · have h1 : ((kindErr l : Int) != 0) = true := by rw [kindErr_bad2 l h0]; rfl
    have HN := Lib.hid (numberOf_no l (by omega)); clear h0
    go_enter Tryd.func38, Tryd.ntmps38
    go_wp2_with (go_at_call 24; refine (kind_any l _ HE.out hl).mono ?_; rintro e w1 ⟨rfl, hb1⟩)
    go_ret2
    exact numPost_of HN.out rfl rfl hb1
  have h1 : ((kindErr l : Int) != 0) = false := by rw [kindErr_ok l h0]; rfl
  by_cases h2 : kind l = 2
  · have h3 : ((kind l : Int) != 2) = false := by simp; omega
    have HN := Lib.hid (numberOf_yes l h2)
    have HK := Lib.hid h2
    clear h0 h2
    go_enter Tryd.func38, Tryd.ntmps38
    go_wp2_with (first
      | (go_at_call 24; refine (kind_any l _ HE.out hl).mono ?_; rintro e w1 ⟨rfl, hb1⟩)
      | (go_at_call 62; refine (atoi_any l _ HK.out).mono ?_; rintro e w2 ⟨rfl, hb2⟩))
    go_ret2
    exact numPost_of HN.out rfl rfl (hb1.trans (hb2.mono hb1.size))
  · have h3 : ((kind l : Int) != 2) = true := by simp; omega
    have HN := Lib.hid (numberOf_no l h2); clear h0 h2
    go_enter Tryd.func38, Tryd.ntmps38
    go_wp2_with (go_at_call 24; refine (kind_any l _ HE.out hl).mono ?_; rintro e w1 ⟨rfl, hb1⟩)
    go_ret2
    exact numPost_of HN.out rfl rfl hb1
set_option maxRecDepth 100000 in
set_option maxHeartbeats 2000000 in
theorem rnumber_any (l : Bs) (w : World) (hl : l.length ≤ 100000000) :
    Calls Tryd.prog 40 #[.string (ofL l)] w (NumPost l w) := by
  by_cases h0 : kind l = 0
  · have h1 : ((kindErr l : Int) != 0) = true := by rw [kindErr_bad2 l h0]; rfl
    have HN := Lib.hid (numberOf_no l (by omega)); clear h0
    go_enter Tryd.func40, Tryd.ntmps40
    go_wp2_with (go_at_call 39; refine (rkind_any l _ hl).mono ?_; rintro e w1 ⟨rfl, hb1⟩)
    go_ret2
    exact numPost_of HN.out rfl rfl hb1
  have h1 : ((kindErr l : Int) != 0) = false := by rw [kindErr_ok l h0]; rfl
  by_cases h2 : kind l = 2
  case neg =>
    have h3 : ((kind l : Int) != 2) = true := by simp; omega
    have HN := Lib.hid (numberOf_no l h2); clear h0 h2
    go_enter Tryd.func40, Tryd.ntmps40
    go_wp2_with (go_at_call 39; refine (rkind_any l _ hl).mono ?_; rintro e w1 ⟨rfl, hb1⟩)
    go_ret2
    exact numPost_of HN.out rfl rfl hb1
  have h3 : ((kind l : Int) != 2) = false := by simp; omega
  have HN := Lib.hid (numberOf_yes l h2)
  obtain ⟨h4, h5, h6⟩ := kind_two l h2
  have HD := Lib.hid h6
  clear h0 h2 h6
  go_enter Tryd.func40, Tryd.ntmps40
  go_wp2_with (go_at_call 39; refine (rkind_any l _ hl).mono ?_; rintro e w1 ⟨rfl, hb1⟩)
  have HB := Lib.hid hb1; clear hb1
  go_loopw [6, 7] (fun s i wr => ∃ n : Nat, n ≤ l.length ∧ i = .int .i64 n ∧ s = .int .i64 (numOf (l.take n)) ∧ wr = w1) (fun _ i _ => l.length - (intOf i).toNat)
  case atStart => exact ⟨0, Nat.zero_le _, rfl, by simp [numOf, digits], rfl⟩
  case round =>
    obtain ⟨n, hn, rfl, rfl, rfl⟩ := hrel
    have hlt2 := numOf_lt (l.take n) (fun c hc => HD.out c (List.mem_of_mem_take hc)) (by simp; omega)
    by_cases hlt : n < l.length
    · have hstep := numOf_take l n hlt
      obtain ⟨hd1, hd2⟩ := digit_le _ (HD.out _ (gt_mem l n hlt))
      go_wp2
      exact ⟨⟨n + 1, by omega, by go_num, by rw [hstep]; go_num, by first | rfl | trivial⟩, by simp [intOf]; omega⟩
    · have e : l.take n = l := List.take_of_length_le (by omega)
      rw [e] at hlt2 ⊢
      go_wp2
      go_ret2
      exact numPost_of HN.out rfl rfl HB.out
end Go.Proofs.YtkckmnipidpdeaaDoor
