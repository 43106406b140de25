/-
  WALKS, fifth part: mistref02.First.
-/
import Derived.Test.YtkckmnipidpdeaaDoorWalkD
namespace Go.Proofs.YtkckmnipidpdeaaDoor
open Go.RowKit Mist
attribute [local go_sem] ofL_extract ofL_size ofL_get ofL_bytes
/-- The value of a token. -/
def tokVal (k : Nat) (t : Bs) (a : Int) : Value := .agg #[.int .u8 k, .string (ofL t), .int .i64 a]
/-- What mistref02.First hands back: a token with the kind 0, without text and place, if there is none. -/
def tokOf (l : Bs) (a : Nat) : Value := if (first l).1 = 0 then tokVal 0 [] 0 else tokVal (first l).1 (first l).2 a
theorem drop_gt0 (l : Bs) (a : Nat) : gt (l.drop a) 0 = gt l a := by rw [gt_drop]; rfl
theorem while_at (p : UInt8 → Bool) (l : Bs) (a k : Nat) (h1 : a ≤ k) (h2 : k ≤ l.length) (ha : ∀ c ∈ (l.drop a).take (k - a), p c = true) (he : k = l.length ∨ k < l.length ∧ p (gt l k) = false) :
    while_ p (l.drop a) = k - a := by
  refine while_eq p _ _ (by simp; omega) ha ?_
  rcases he with h | ⟨h, hf⟩
  · exact .inl (by simp; omega)
  · exact .inr ⟨by simp; omega, by rw [gt_drop, show a + (k - a) = k by omega]; exact hf⟩
theorem all_at (p : UInt8 → Bool) (l : Bs) (a k : Nat) (h1 : a ≤ k) (h2 : k < l.length) (ha : ∀ c ∈ (l.drop a).take (k - a), p c = true) (hp : p (gt l k) = true) : ∀ c ∈ (l.drop a).take (k + 1 - a), p c = true := by
  rw [show k + 1 - a = (k - a) + 1 by omega]
  refine all_snoc p _ _ (by simp; omega) ha ?_
  rw [gt_drop, show a + (k - a) = k by omega]; exact hp
theorem partB_or (b : UInt8) : partB b = (smallB b || digitB b) := rfl
set_option maxHeartbeats 1000000 in
theorem rfirst_small (l : Bs) (a : Nat) (w : World) (hl : l.length ≤ 100000000) (hal : a < l.length) (hs : smallB (gt l a) = true) :
    Calls Tryd.prog 47 #[.string (ofL l), .int .i64 a] w fun e w' => e = .returned (tokOf (l.drop a) a) ∧ Below w.heap.size w w' := by
  have H0 := Lib.hid (show ¬ (l.drop a).length = 0 by simp; omega)
  have HS := Lib.hid (show smallB (gt (l.drop a) 0) = true by rw [drop_gt0]; exact hs)
  go_enter Tryd.func47, Tryd.ntmps47
  go_wp2_with (first
    | (go_at_call 75; refine (letter_any _ _).mono ?_; rintro e w' ⟨rfl, rfl⟩))
  go_loop [5] (fun i => ∃ k : Nat, a ≤ k ∧ k ≤ l.length ∧ i = .int .i64 k ∧ ∀ c ∈ (l.drop a).take (k - a), partB c = true) (fun i => l.length - (intOf i).toNat)
  case atStart => exact ⟨a, Nat.le_refl _, by omega, rfl, by simp⟩
  case round =>
    obtain ⟨k, hak, hkl, rfl, hall⟩ := hrel
    have HA := Lib.hid hall; clear hall
    by_cases hlt : k < l.length ∧ partB (gt l k) = true
    · obtain ⟨hlt, hp⟩ := hlt
      have HP := Lib.hid hp
      by_cases h1 : smallB (gt l k) = true
      case' neg => have h1' : smallB (gt l k) = false := by simpa using h1
      case' neg => have h2 : digitB (gt l k) = true := by rw [partB_or, h1'] at hp; simpa using hp
      all_goals
        clear hp
        go_wp2_with (first
          | (go_at_call 75; refine (letter_any _ _).mono ?_; rintro e w' ⟨rfl, rfl⟩)
          | (go_at_call 76; refine (rdigit_any _ _).mono ?_; rintro e w' ⟨rfl, rfl⟩))
        exact ⟨⟨k + 1, by omega, by omega, by go_num, all_at _ _ _ _ hak hlt HA.out HP.out⟩, by simp [intOf]; omega⟩
    · have hw : while_ partB (l.drop a) = k - a := by
        refine while_at _ _ _ _ hak hkl HA.out ?_
        rcases Nat.lt_or_ge k l.length with h | h
        · exact .inr ⟨h, by simpa using fun g => hlt ⟨h, g⟩⟩
        · exact .inl (by omega)
      have hg : (k < l.length ∧ smallB (gt l k) = false ∧ digitB (gt l k) = false) ∨ ¬ k < l.length := by
        rcases Nat.lt_or_ge k l.length with h | h
        · have : partB (gt l k) = false := by simpa using fun g => hlt ⟨h, g⟩
          exact .inl ⟨h, by simpa [partB_or] using this⟩
        · exact .inr (by omega)
      have hk3 : (hasB keywords ((l.take k).drop a) = true ∧ first (l.drop a) = (3, (l.take k).drop a)) ∨
          (hasB keywords ((l.take k).drop a) = false ∧ k - a ≤ 12 ∧ first (l.drop a) = (1, (l.take k).drop a)) ∨
          (hasB keywords ((l.take k).drop a) = false ∧ 12 < k - a ∧ first (l.drop a) = (0, [])) := by
        have e : (l.take k).drop a = (l.drop a).take (while_ partB (l.drop a)) := by rw [hw, List.drop_take]
        rw [e, ← hw]
        by_cases hk : hasB keywords ((l.drop a).take (while_ partB (l.drop a))) = true
        · exact .inl ⟨hk, first_kw _ H0.out HS.out hk⟩
        · have hk' : hasB keywords ((l.drop a).take (while_ partB (l.drop a))) = false := by simpa using hk
          by_cases hn : while_ partB (l.drop a) ≤ 12
          · exact .inr (.inl ⟨hk', hn, first_name _ H0.out HS.out hk hn⟩)
          · exact .inr (.inr ⟨hk', by omega, first_long _ H0.out HS.out hk hn⟩)
      clear hlt hw
      rcases hg with ⟨hlt, g1, g2⟩ | hlt <;> rcases hk3 with ⟨hk, hf⟩ | ⟨hk, hn, hf⟩ | ⟨hk, hn, hf⟩
      all_goals
        have HF := Lib.hid hf; clear hf
        have hbn := heap_alloc_new (w.alloc (Obj.cells #[Value.int IntKind.u8 0, Value.string { data := #[] }, Value.int IntKind.i64 0] 38)) (.cells (strRow keywords) 9)
        rw [World.size_alloc] at hbn
        have HBN := Lib.hid hbn; clear hbn
        go_wp2_with (first
          | (go_at_call 75; refine (letter_any _ _).mono ?_; rintro e w' ⟨rfl, rfl⟩)
          | (go_at_call 76; refine (rdigit_any _ _).mono ?_; rintro e w' ⟨rfl, rfl⟩)
          | (go_at_call 78; refine (rkeywords_any _).mono ?_; rintro e w' ⟨rfl, rfl⟩)
          | (go_at_call 77; refine (in_any' keywords _ _ _ _ _ _ _ HBN.out (by decide) rfl).mono ?_; rintro e w' ⟨rfl, rfl⟩))
        refine bodyPost_ret (v := tokOf (l.drop a) a) ?_ rfl ⟨rfl, ((Below.refl _ _).alloc (Nat.le_refl _) _).alloc (by simp) _⟩
        simp only [tokOf, HF.out]
        simp [results, Tryd.results47, go_sem]
        rfl
set_option maxHeartbeats 1000000 in
theorem rfirst_digit (l : Bs) (a : Nat) (w : World) (hl : l.length ≤ 100000000) (hal : a < l.length) (hs : smallB (gt l a) = false) (hd : digitB (gt l a) = true) :
    Calls Tryd.prog 47 #[.string (ofL l), .int .i64 a] w fun e w' => e = .returned (tokOf (l.drop a) a) ∧ Below w.heap.size w w' := by
  have H0 := Lib.hid (show ¬ (l.drop a).length = 0 by simp; omega)
  have HS := Lib.hid (show ¬ smallB (gt (l.drop a) 0) = true by rw [drop_gt0, hs]; decide)
  have HD := Lib.hid (show digitB (gt (l.drop a) 0) = true by rw [drop_gt0]; exact hd)
  go_enter Tryd.func47, Tryd.ntmps47
  go_wp2_with (first
    | (go_at_call 75; refine (letter_any _ _).mono ?_; rintro e w' ⟨rfl, rfl⟩)
    | (go_at_call 76; refine (rdigit_any _ _).mono ?_; rintro e w' ⟨rfl, rfl⟩))
  go_loop [5] (fun i => ∃ k : Nat, a ≤ k ∧ k ≤ l.length ∧ i = .int .i64 k ∧ ∀ c ∈ (l.drop a).take (k - a), digitB c = true) (fun i => l.length - (intOf i).toNat)
  case atStart => exact ⟨a, Nat.le_refl _, by omega, rfl, by simp⟩
  case round =>
    obtain ⟨k, hak, hkl, rfl, hall⟩ := hrel
    have HA := Lib.hid hall; clear hall
    by_cases hlt : k < l.length ∧ digitB (gt l k) = true
    · obtain ⟨hlt, hp⟩ := hlt
      go_wp2_with (go_at_call 76; refine (rdigit_any _ _).mono ?_; rintro e w' ⟨rfl, rfl⟩)
      exact ⟨⟨k + 1, by omega, by omega, by go_num, all_at _ _ _ _ hak hlt HA.out hp⟩, by simp [intOf]; omega⟩
    · have hw : while_ digitB (l.drop a) = k - a := by
        refine while_at _ _ _ _ hak hkl HA.out ?_
        rcases Nat.lt_or_ge k l.length with h | h
        · exact .inr ⟨h, by simpa using fun g => hlt ⟨h, g⟩⟩
        · exact .inl (by omega)
      have hka : a < k := by
        rcases Nat.lt_or_ge a k with h | h
        · exact h
        · have e : k = a := by omega
          exact absurd ⟨by omega, by rw [e]; exact hd⟩ hlt
      have hg : (k < l.length ∧ digitB (gt l k) = false) ∨ ¬ k < l.length := by
        rcases Nat.lt_or_ge k l.length with h | h
        · exact .inl ⟨h, by simpa using fun g => hlt ⟨h, g⟩⟩
        · exact .inr (by omega)
      have hgz : gt ((l.take k).drop a) 0 = gt l a := by rw [gt_drop, Nat.add_zero, gt_take _ _ _ hka]
      have hk3 : (((k - a : Nat) : Int) == 1) = true ∧ first (l.drop a) = (2, (l.take k).drop a) ∨
          ((((k - a : Nat) : Int) == 1) = false ∧ k - a ≤ 4 ∧ (((gt l a).toNat : Int) != 48) = true ∧ first (l.drop a) = (2, (l.take k).drop a)) ∨
          ((((k - a : Nat) : Int) == 1) = false ∧ k - a ≤ 4 ∧ (((gt l a).toNat : Int) != 48) = false ∧ first (l.drop a) = (0, [])) ∨
          ((((k - a : Nat) : Int) == 1) = false ∧ 4 < k - a ∧ first (l.drop a) = (0, [])) := by
        have e : (l.take k).drop a = (l.drop a).take (while_ digitB (l.drop a)) := by rw [hw, List.drop_take]
        have en := isNumber_eq ((l.take k).drop a)
        rw [hgz, e] at en
        have el : ((l.drop a).take (while_ digitB (l.drop a))).length = k - a := by rw [hw]; simp; omega
        rw [el] at en
        rw [e]
        by_cases h1 : k - a = 1
        · refine .inl ⟨by simp [h1], first_num _ H0.out HS.out HD.out (by rw [en]; simp [h1])⟩
        · have hb1 : (((k - a : Nat) : Int) == 1) = false := by simp; omega
          by_cases h4 : k - a ≤ 4
          · by_cases h48 : (((gt l a).toNat : Int) != 48) = true
            · exact .inr (.inl ⟨hb1, h4, h48, first_num _ H0.out HS.out HD.out (by rw [en, h48]; simp [h4])⟩)
            · have h48' : (((gt l a).toNat : Int) != 48) = false := by simpa using h48
              exact .inr (.inr (.inl ⟨hb1, h4, h48', first_nonum _ H0.out HS.out HD.out (by rw [en, h48']; simp [h1])⟩))
          · exact .inr (.inr (.inr ⟨hb1, by omega, first_nonum _ H0.out HS.out HD.out (by rw [en]; simp; omega)⟩))
      have HGZ := Lib.hid hgz; clear hgz
      clear hlt hw
      rcases hg with ⟨hlt, g1⟩ | hlt <;> rcases hk3 with ⟨h1, hf⟩ | ⟨h1, h4, h48, hf⟩ | ⟨h1, h4, h48, hf⟩ | ⟨h1, h4, hf⟩
      all_goals
        have HF := Lib.hid hf; clear hf
        have hz := HGZ.out
        go_wp2_with (first
          | (go_at_call 76; refine (rdigit_any _ _).mono ?_; rintro e w' ⟨rfl, rfl⟩))
        refine bodyPost_ret (v := tokOf (l.drop a) a) ?_ rfl ⟨rfl, ((Below.refl _ _).alloc (Nat.le_refl _) _)⟩
        simp only [tokOf, HF.out]
        simp [results, Tryd.results47, go_sem]
        rfl
end Go.Proofs.YtkckmnipidpdeaaDoor
