/-
  WALKS, sixth part: mistref02.First at a sign and at the end; the whole.
-/
import Derived.Test.YtkckmnipidpdeaaDoorWalkE
import Derived.Deep.QuietTactic
import Derived.BigQuiet
import Derived.IntWalk
namespace Go.Proofs.YtkckmnipidpdeaaDoor
open Go.RowKit Mist
attribute [local go_sem] ofL_extract ofL_size ofL_get ofL_bytes
set_option maxHeartbeats 1000000 in
theorem rfirst_end (l : Bs) (a : Nat) (w : World) (_hl : l.length ≤ 100000000) (ha : a = l.length) :
    Calls Tryd.prog 47 #[.string (ofL l), .int .i64 a] w fun e w' => e = .returned (tokOf (l.drop a) a) ∧ Below w.heap.size w w' := by
  have hal : l.length ≤ a := by omega
  have HF := Lib.hid (first_empty (l.drop a) (by simp; omega))
  clear ha
  go_enter Tryd.func47, Tryd.ntmps47
  go_wp2
  refine bodyPost_ret (v := tokOf (l.drop a) a) ?_ rfl ⟨rfl, ((Below.refl _ _).alloc (Nat.le_refl _) _)⟩
  simp only [tokOf, HF.out]
  simp [results, Tryd.results47, go_sem]
  rfl
theorem bdrewN {B : Nat} {a w : World} (h : Below B a w) (n : Nat) : Below B a (w.drewN n) := h.trans ⟨rfl, rfl, rfl, Nat.le_refl _, fun _ _ => rfl⟩
theorem prefB_at (g l : Bs) (a : Nat) : prefB g (l.drop a) = (decide (a + g.length ≤ max a l.length) && ((l.take (a + g.length)).drop a == g)) := by
  rw [Bool.eq_iff_iff, prefB, List.isPrefixOf_iff_prefix, List.prefix_iff_eq_take, List.drop_take]
  simp only [Nat.add_sub_cancel_left, Bool.and_eq_true, decide_eq_true_eq, beq_iff_eq]
  constructor
  · intro h
    refine ⟨?_, h.symm⟩
    have := congrArg List.length h
    simp at this
    omega
  · exact fun h => h.2.symm
set_option maxHeartbeats 1000000 in
theorem rfirst_sign (l : Bs) (a : Nat) (w : World) (hl : l.length ≤ 100000000) (hal : a < l.length) (hs : smallB (gt l a) = false) (hd : digitB (gt l a) = false) :
    Calls Tryd.prog 47 #[.string (ofL l), .int .i64 a] w fun e w' => e = .returned (tokOf (l.drop a) a) ∧ Below w.heap.size w w' := by
  have H0 := Lib.hid (show ¬ (l.drop a).length = 0 by simp; omega)
  have HS := Lib.hid (show ¬ smallB (gt (l.drop a) 0) = true by rw [drop_gt0, hs]; decide)
  have HD := Lib.hid (show ¬ digitB (gt (l.drop a) 0) = true by rw [drop_gt0, hd]; decide)
  have hbn := heap_alloc_new (w.alloc (Obj.cells #[Value.int IntKind.u8 0, Value.string { data := #[] }, Value.int IntKind.i64 0] 38)) (.cells (strRow signs) 9)
  rw [World.size_alloc] at hbn
  have HBN := Lib.hid hbn; clear hbn
  go_enter Tryd.func47, Tryd.ntmps47
  go_wp2_with (first
    | (go_at_call 75; refine (letter_any _ _).mono ?_; rintro e w' ⟨rfl, rfl⟩)
    | (go_at_call 76; refine (rdigit_any _ _).mono ?_; rintro e w' ⟨rfl, rfl⟩)
    | (go_at_call 79; refine (rsigns_any _).mono ?_; rintro e w' ⟨rfl, rfl⟩))
  go_loopw [9] (fun i wr => ∃ n q : Nat, n ≤ 23 ∧ i = .int .i64 n ∧ noSign (l.drop a) n ∧ wr = ((w.alloc (Obj.cells #[Value.int IntKind.u8 0, Value.string { data := #[] }, Value.int IntKind.i64 0] 38)).alloc (.cells (strRow signs) 9)).drewN q) (fun i _ => 23 - (intOf i).toNat)
  case atStart => exact ⟨0, 0, Nat.zero_le _, rfl, noSign_zero _, rfl⟩
  case round =>
    obtain ⟨n, q, hn, rfl, hns, rfl⟩ := hrel
    have HA := Lib.hid hns; clear hns
    by_cases hlt : n < 23
    · have hc := strCell HBN.out n (show n < signs.length from hlt)
      have hp := prefB_at (sg signs n) l a
      have hsl : (sg signs n).length ≤ 2 := by
        have : ∀ g ∈ signs, g.length ≤ 2 := by decide
        refine this _ ?_
        rw [sg_eq _ _ (show n < signs.length from hlt)]
        exact List.getElem_mem _
      by_cases hg : a + (sg signs n).length ≤ l.length
      · have hgi : (a : Int) + ((sg signs n).length : Int) ≤ (l.length : Int) := by omega
        have hm : max a l.length = l.length := by omega
        rw [hm] at hp
        rw [decide_eq_true hg, Bool.true_and] at hp
        have HP := Lib.hid hp; clear hp
        clear hm
        go_wp2
        have ht : ((a : Int) + ((sg signs n).length : Int)).toNat = a + (sg signs n).length := by omega
        have h00 : 0 ≤ (a : Int) + ((sg signs n).length : Int) := by omega
        have hwr : IntKind.i64.wrap ((a : Int) + ((sg signs n).length : Int)) = (a : Int) + ((sg signs n).length : Int) := IntWalk.i64_in _ (by omega)
        go_quiet (fail)
        clear hwr
        go_wp2
        · have he : ((l.take (a + (sg signs n).length)).drop a == sg signs n) = true := by assumption
          have HF := Lib.hid (first_sign _ H0.out HS.out HD.out _ (signOf_hit (l.drop a) n hlt HA.out (by rw [HP.out]; exact he)))
          refine bodyPost_ret (v := tokOf (l.drop a) a) ?_ rfl ⟨rfl, by (go_grown; exact bdrewN (by go_grown) _)⟩
          simp only [tokOf, HF.out]
          simp [results, Tryd.results47, go_sem]
          rfl
        · have he : ((l.take (a + (sg signs n).length)).drop a == sg signs n) = false := by assumption
          exact ⟨⟨n + 1, _, by omega, by go_num, noSign_succ _ n hlt HA.out (by rw [HP.out]; exact he), rfl⟩, by simp [intOf]; omega⟩
      · have hgi : (decide ((a : Int) + ((sg signs n).length : Int) ≤ (l.length : Int))) = false := by simp; omega
        have hm : max a l.length = l.length := by omega
        rw [hm] at hp
        rw [decide_eq_false hg, Bool.false_and] at hp
        have HP := Lib.hid hp; clear hp
        clear hm
        go_wp2
        have hwr : IntKind.i64.wrap ((a : Int) + ((sg signs n).length : Int)) = (a : Int) + ((sg signs n).length : Int) := IntWalk.i64_in _ (by omega)
        go_quiet (fail)
        clear hwr
        go_wp2
        exact ⟨⟨n + 1, _, by omega, by go_num, noSign_succ _ n hlt HA.out HP.out, rfl⟩, by simp [intOf]; omega⟩
    · have e : n = 23 := by omega
      have HF := Lib.hid (first_none _ H0.out HS.out HD.out (signOf_none (l.drop a) (e ▸ HA.out)))
      clear e
      go_wp2
      refine bodyPost_ret (v := tokOf (l.drop a) a) ?_ rfl ⟨rfl, by (go_grown; exact bdrewN (by go_grown) _)⟩
      simp only [tokOf, HF.out]
      simp [results, Tryd.results47, go_sem]
      rfl
theorem rfirst_any (l : Bs) (a : Nat) (w : World) (hl : l.length ≤ 100000000) (ha : a ≤ l.length) :
    Calls Tryd.prog 47 #[.string (ofL l), .int .i64 a] w fun e w' => e = .returned (tokOf (l.drop a) a) ∧ Below w.heap.size w w' := by
  rcases Nat.lt_or_ge a l.length with h | h
  · cases hs : smallB (gt l a)
    · cases hd : digitB (gt l a)
      · exact rfirst_sign l a w hl h hs hd
      · exact rfirst_digit l a w hl h hs hd
    · exact rfirst_small l a w hl h hs
  · exact rfirst_end l a w hl (by omega)
end Go.Proofs.YtkckmnipidpdeaaDoor
