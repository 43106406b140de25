/-
  WALKS, fourth part: mistref02.In; token.first, mistref02.First.
-/
import Derived.Test.YtpomgledekkjjaaDoorWalkC
namespace Go.Proofs.YtpomgledekkjjaaDoor
open Go.RowKit Mist
attribute [local go_sem] ofL_extract ofL_size ofL_get ofL_bytes
theorem strCell {w : World} {b : Nat} {xs : List Bs} {T : TypeId} {fr : Nat × Nat} (hb : w.heap[b]? = some (.cells (strRow xs) T fr)) (j : Nat) (h : j < xs.length) :
    w.cell? ⟨b, j, none⟩ = some (.string (ofL (sg xs j))) := by
  rw [Lib.cell_of_heap hb]; exact strRow_get xs j h
theorem contains_any (xs : List Bs) (x : Bs) (b c n T : Nat) (fr : Nat × Nat) (w : World) (hb : w.heap[b]? = some (.cells (strRow xs) T fr)) (hl : xs.length ≤ 1000) (hn : n = xs.length) :
    Calls Tryd.prog 29 #[.slice (some ⟨b, 0, none⟩) n c, .string (ofL x)] w fun e w' => e = .returned (.bool (hasB xs x)) ∧ w = w' := by
  subst hn
  refine (Tryd.slices_Contains_string b 0 xs.length c (xs.map ofL) (ofL x) w (by simp) (by omega) ?_).mono ?_
  · intro j hj
    have hj' : j < xs.length := by simpa using hj
    rw [Nat.zero_add, strCell hb j hj']
    simp [hj', sg]
  · rintro e w' ⟨rfl, rfl⟩
    refine ⟨ret_bool ?_, rfl⟩
    rw [Bool.eq_iff_iff, Lib.containsS_iff]
    simp only [hasB, List.contains_iff_mem]
    rw [List.take_of_length_le (by simp), List.mem_map]
    constructor
    · rintro ⟨a, ha, e⟩
      rwa [← ofL_inj e]
    · exact fun h => ⟨x, h, rfl⟩
theorem hasPrefix_any (s p : Bs) (w : World) :
    Calls Tryd.prog 34 #[.string (ofL s), .string (ofL p)] w fun e w' => e = .returned (.bool (prefB p s)) ∧ w = w' :=
  (Tryd.strings_HasPrefix (ofL s) (ofL p) w).mono fun _ _ h => ⟨h.1, h.2.symm⟩
theorem ret_tok {k : Nat} {t : Bs} {l : Bs} {a : Int} {b : Bs} (h : first l = (k, t)) (ha : a = k) (hb : b = t) :
    Ending.returned (.tuple #[.int .u8 a, .string (ofL b)]) = .returned (.tuple #[.int .u8 (first l).1, .string (ofL (first l).2)]) := by
  subst ha; subst hb; rw [h]
set_option maxHeartbeats 1000000 in
theorem first_any (l : Bs) (w : World) (hE : Env w) (hl : l.length ≤ 100000000) :
    Calls Tryd.prog 17 #[.string (ofL l)] w fun e w' => e = .returned (.tuple #[.int .u8 (first l).1, .string (ofL (first l).2)]) ∧ Below w.heap.size w w' := by
  have HE := Lib.hid hE; clear hE
  by_cases h00 : l.length = 0
  · have hem : l.isEmpty = true := by cases l <;> simp_all
    have H0 := Lib.hid h00; clear h00
    go_enter Tryd.func17, Tryd.ntmps17
    go_wp2
    go_ret2
    exact ⟨ret_tok (b := []) (first_empty l H0.out) rfl rfl, Below.refl _ _⟩
  have hem : l.isEmpty = false := by cases l <;> simp_all
  have h0 : 0 < l.length := by omega
  have H0 := Lib.hid h00; clear h00
  by_cases hs : smallB (gt l 0) = true
  · have hw := while_le partB l
    have hbn := heap_alloc_new w (.cells (strRow keywords) 9)
    have HBN := Lib.hid hbn; clear hbn
    have hbe : Below w.heap.size w (w.alloc (.cells (strRow keywords) 9)) := (Below.refl _ _).alloc (Nat.le_refl _) _
    have HBE := Lib.hid hbe; clear hbe
    by_cases hk : hasB keywords (l.take (while_ partB l)) = true
    · go_enter Tryd.func17, Tryd.ntmps17
      go_wp2_with (first
        | (go_at_call 27; refine (small_any _ _).mono ?_; rintro e w' ⟨rfl, rfl⟩)
        | (go_at_call 25; refine (while_part l _ hl).mono ?_; rintro e w' ⟨rfl, rfl⟩)
        | (go_at_call 30; refine (keywords_any _ HE.out).mono ?_; rintro e w' ⟨rfl, rfl⟩)
        | (go_at_call 29; refine (contains_any keywords _ _ _ _ _ _ _ HBN.out (by decide) rfl).mono ?_; rintro e w' ⟨rfl, rfl⟩))
      go_ret2
      exact ⟨ret_tok (first_kw l H0.out hs hk) rfl rfl, HBE.out⟩
    · have hk' : hasB keywords (l.take (while_ partB l)) = false := by simpa using hk
      by_cases hn : while_ partB l ≤ 12
      case' pos => have HF := Lib.hid (first_name l H0.out hs hk hn)
      case' neg => have HF := Lib.hid (first_long l H0.out hs hk hn)
      all_goals
        clear hk
        go_enter Tryd.func17, Tryd.ntmps17
        go_wp2_with (first
          | (go_at_call 27; refine (small_any _ _).mono ?_; rintro e w' ⟨rfl, rfl⟩)
          | (go_at_call 25; refine (while_part l _ hl).mono ?_; rintro e w' ⟨rfl, rfl⟩)
          | (go_at_call 30; refine (keywords_any _ HE.out).mono ?_; rintro e w' ⟨rfl, rfl⟩)
          | (go_at_call 29; refine (contains_any keywords _ _ _ _ _ _ _ HBN.out (by decide) rfl).mono ?_; rintro e w' ⟨rfl, rfl⟩))
        go_ret2
        exact ⟨ret_tok (by first | exact HF.out) rfl rfl, HBE.out⟩
  have hs' : smallB (gt l 0) = false := by simpa using hs
  by_cases hd : digitB (gt l 0) = true
  · have hw := while_le digitB l
    have hp : 0 < while_ digitB l := by
      unfold while_
      cases l with
      | nil => simp at h0
      | cons b r => have hd2 : digitB b = true := hd; rw [List.takeWhile_cons_of_pos hd2]; simp
    by_cases hn : isNumber (l.take (while_ digitB l)) = true
    case' pos => have HF := Lib.hid (first_num l H0.out hs hd hn)
    case' neg => have HF := Lib.hid (first_nonum l H0.out hs hd hn); have hn : isNumber (l.take (while_ digitB l)) = false := by simpa using hn
    all_goals
      clear hs
      go_enter Tryd.func17, Tryd.ntmps17
      go_wp2_with (first
        | (go_at_call 27; refine (small_any _ _).mono ?_; rintro e w' ⟨rfl, rfl⟩)
        | (go_at_call 31; refine (digit_any _ _).mono ?_; rintro e w' ⟨rfl, rfl⟩)
        | (go_at_call 25; refine (while_digit l _ hl).mono ?_; rintro e w' ⟨rfl, rfl⟩)
        | (go_at_call 32; refine (isNumber_any (l.take (while_ digitB l)) _ (by simp; omega) (by simp; omega)).mono ?_; rintro e w' ⟨rfl, rfl⟩))
      go_ret2
      exact ⟨ret_tok (by exact HF.out) rfl rfl, Below.refl _ _⟩
  · have hd' : digitB (gt l 0) = false := by simpa using hd
    have hbn := heap_alloc_new w (.cells (strRow signs) 9)
    have HBN := Lib.hid hbn; clear hbn
    have hbe : Below w.heap.size w (w.alloc (.cells (strRow signs) 9)) := (Below.refl _ _).alloc (Nat.le_refl _) _
    have HBE := Lib.hid hbe; clear hbe
    have HS := Lib.hid hs; clear hs
    have HD := Lib.hid hd; clear hd
    go_enter Tryd.func17, Tryd.ntmps17
    go_wp2_with (first
      | (go_at_call 27; refine (small_any _ _).mono ?_; rintro e w' ⟨rfl, rfl⟩)
      | (go_at_call 31; refine (digit_any _ _).mono ?_; rintro e w' ⟨rfl, rfl⟩)
      | (go_at_call 33; refine (signs_any _ HE.out).mono ?_; rintro e w' ⟨rfl, rfl⟩))
    go_loop [42] (fun i => ∃ n : Nat, n ≤ 23 ∧ i = .int .i64 n ∧ noSign l n) (fun i => 23 - (intOf i).toNat)
    case atStart => exact ⟨0, Nat.zero_le _, rfl, noSign_zero _⟩
    case round =>
      obtain ⟨n, hn, rfl, hns⟩ := hrel
      have HA := Lib.hid hns; clear hns
      by_cases hlt : n < 23
      · have hc := strCell HBN.out n (show n < signs.length from hlt)
        go_wp2_with (go_at_call 34; refine (hasPrefix_any _ _ _).mono ?_; rintro e w' ⟨rfl, rfl⟩)
        · have hp : prefB (sg signs n) l = true := by assumption
          go_ret2
          exact ⟨ret_tok (first_sign l H0.out HS.out HD.out _ (signOf_hit l n hlt HA.out hp)) rfl rfl, HBE.out⟩
        · have hp : prefB (sg signs n) l = false := by assumption
          exact ⟨⟨n + 1, by omega, by go_num, noSign_succ l n hlt HA.out hp⟩, by simp [intOf]; omega⟩
      · go_wp2
        go_ret2
        have e : n = 23 := by omega
        exact ⟨ret_tok (b := []) (first_none l H0.out HS.out HD.out (signOf_none l (e ▸ HA.out))) rfl rfl, HBE.out⟩
end Go.Proofs.YtpomgledekkjjaaDoor
