/-
  THE LAW TokenPlaces, walked: for any text it answers true and leaves the old memory as it was.
-/
import Derived.Test.YtkckmnipidpdeaaDoorWalkS
import Derived.Test.YtkckmnipidpdeaaDoorWalkU
import Derived.Test.YtkckmnipidpdeaaDoorPlain11
namespace Go.Proofs.YtkckmnipidpdeaaDoor
open Go.RowKit Mist
attribute [local go_sem] ofL_extract ofL_size ofL_get ofL_bytes ofL_append
set_option maxRecDepth 100000 in
set_option maxHeartbeats 4000000 in
theorem places_law (s : Bs) (w : World) (hE : Env w) :
    Calls Tryd.prog 6 #[.string (ofL s)] w fun e w' => e = .returned (.bool true) ∧ Below w.heap.size w w' := by
  have HE := Lib.hid hE; clear hE
  by_cases hl : 300 < s.length
  · go_enter Tryd.func6, Tryd.ntmps6
    go_wp2_with (go_at_call 14; refine (known_any _ HE.out).mono ?_; rintro e w1 ⟨rfl, hb1⟩)
    go_ret
    exact ⟨rfl, hb1⟩
  have hl2 : s.length ≤ 300 := by omega
  by_cases her : (Mist.read s).2.2 = 0
  case neg =>
    obtain ⟨hr1, hr2⟩ := read_err s her
    have her1 : (((Mist.read s).2.2 : Int) != 0) = true := by simp; omega
    have hlen : (Mist.read s).1.length = 0 := by rw [hr1]; rfl
    clear her hr1
    go_enter Tryd.func6, Tryd.ntmps6
    go_wp2_with fail
    refine (read_any s _ HE.out (by omega)).mono ?_
    rintro e w1 ⟨v1, rfl, ht1, hb1⟩
    obtain ⟨A, c, rfl⟩ : ∃ A c, v1 = .slice A 0 c := by obtain ⟨A, c, h, _⟩ := ht1; exact ⟨A, c, by rw [h, hlen]⟩
    have HE1 := Lib.hid (HE.out.below hb1)
    have HB1 := Lib.hid hb1; clear hb1 ht1
    go_wp2_with fail
    refine (known_any _ HE1.out).mono ?_
    rintro e w2 ⟨rfl, hb2⟩
    have HB2 := Lib.hid (HB1.out.trans (hb2.mono HB1.out.size)); clear hb2
    go_wp2_with fail
    go_ret
    exact ⟨rfl, HB2.out⟩
  have her1 : (((Mist.read s).2.2 : Int) != 0) = false := by simp; omega
  have HP := Lib.hid (read_placed s her); clear her
  have hs8 := read_short s
  go_enter Tryd.func6, Tryd.ntmps6
  go_wp2_with fail
  refine (read_any s _ HE.out (by omega)).mono ?_
  rintro e w1 ⟨v1, rfl, ht1, hb1⟩
  obtain ⟨A, c, rfl⟩ : ∃ A c, v1 = .slice A (Mist.read s).1.length c := by obtain ⟨A, c, h, _⟩ := ht1; exact ⟨A, c, h⟩
  have HT := Lib.hid ht1; clear ht1
  have HE1 := Lib.hid (HE.out.below hb1)
  have HB1 := Lib.hid hb1; clear hb1
  obtain ⟨T, hT⟩ : ∃ T, T = (Mist.read s).1 := ⟨_, rfl⟩
  rw [← hT] at HT hs8 HP ⊢
  clear hT
  go_wp2
  go_loopw [6, 7] (fun e i wr => ∃ E n : Nat, e = .int .i64 E ∧ i = .int .i64 n ∧ n ≤ T.length + 1 ∧ (n ≤ T.length → E ≤ s.length ∧ Placed s (E + skip (s.drop E)) (T.drop n)) ∧ Below w1.heap.size w1 wr) (fun _ i _ => T.length + 1 - (intOf i).toNat)
  case atStart => exact ⟨0, 0, rfl, rfl, by omega, fun _ => ⟨by omega, by simpa using HP.out⟩, Below.refl _ _⟩
  case round =>
    obtain ⟨E, n, rfl, rfl, hn, hpl, hbq⟩ := hrel
    have HBQ := Lib.hid hbq; clear hbq
    by_cases hle : n ≤ T.length
    case neg =>
      clear hpl
      go_wp2_with (go_at_call 14; refine (known_any _ (HE1.out.below HBQ.out)).mono ?_; rintro e w3 ⟨rfl, hb3⟩)
      go_ret
      exact ⟨rfl, HB1.out.trans ((HBQ.out.trans (hb3.mono HBQ.out.size)).mono HB1.out.size)⟩
    obtain ⟨hEs, hp⟩ := hpl hle
    clear hpl
    have hsl := skip_le (s.drop E)
    rw [List.length_drop] at hsl
    obtain ⟨a, hae⟩ : ∃ a, a = E + skip (s.drop E) := ⟨_, rfl⟩
    rw [← hae] at hp
    have HSA := Lib.hid (show skipC false (s.drop E) = a - E by rw [hae]; show skip (s.drop E) = _; omega)
    have haE : E ≤ a := by omega
    have has : a ≤ s.length := by omega
    clear hae hsl
    by_cases hlt : n < T.length
    · obtain ⟨ha1, ha2, ha3, ha4, ha5⟩ := placed_cons hlt hp
      clear hp
      have hk0 : (first (s.drop a)).1 ≠ 0 := by rw [ha3]; exact ha4
      have hfl := first_len _ hk0
      have hfh := first_head _ hk0
      have hkf := kind_first_of _ hk0
      rw [ha3] at hfl hfh hkf
      rw [List.length_drop] at hfl
      obtain ⟨hfl1, hfl2⟩ := hfl
      simp only at hfh hkf hfl1 hfl2
      have HKK := Lib.hid hkf
      have HKE := Lib.hid (show kindErr (tg T n).text = 0 by unfold kindErr; rw [if_neg (by rw [hkf]; exact ha4)])
      have hcut : List.drop a (List.take (a + (tg T n).text.length) s) = (tg T n).text := by
        rw [List.drop_take]; rw [show a + (tg T n).text.length - a = (tg T n).text.length by omega]; exact hfh.symm
      have HCUT := Lib.hid hcut; clear hcut hfh hkf ha3 ha4 hk0
      have HP5 := Lib.hid ha5; clear ha5
      obtain ⟨b, o, rfl, hr⟩ := HT.out.rowA (by omega)
      have HR := Lib.hid (hr.below HBQ.out); clear hr
      have hk := HR.out.kind n hlt
      have ht := HR.out.text n hlt
      have ha := HR.out.at_ n hlt
      rw [ha2] at ha
      have hbl := HR.out.lt
      have HA2 := Lib.hid ha2; clear ha2
      go_wp2
      go_loopw [9, 10] (fun c k wx => ∃ (C : Bool) (K : Nat), c = .bool C ∧ k = .int .i64 K ∧ E ≤ K ∧ K ≤ a ∧ skipC C (s.drop K) = a - K ∧ wx = wr) (fun _ k _ => a - (intOf k).toNat)
      case atStart => exact ⟨false, E, rfl, rfl, Nat.le_refl _, by omega, HSA.out, rfl⟩
      case round =>
        obtain ⟨C, K, rfl, rfl, hK1, hK2, hsk, rfl⟩ := hrel
        by_cases hlt2 : K < a
        · have hw1 : K < s.length := by omega
          obtain ⟨hs1, hs2⟩ := skipC_walk s C K hw1 (by rw [hsk]; omega)
          rw [hsk] at hs1
          have HS1 := Lib.hid hs1; clear hs1
          have HS2 := Lib.hid hs2; clear hs2
          have HSK := Lib.hid hsk; clear hsk
          by_cases b35 : gt s K = 35
          · have c35 : (((gt s K).toNat : Int) == 35) = true := by rw [b35]; rfl
            have HB35 := Lib.hid b35; clear b35
            go_wp2
            refine ⟨⟨true, K + 1, by first | rfl | simp, by go_num, by omega, by omega, ?_, by first | rfl | trivial⟩, by simp [intOf]; omega⟩
            have h := HS1.out
            rw [show (gt s K == 35) = true by rw [HB35.out]; rfl, Bool.true_or] at h
            omega
          have c35 : (((gt s K).toNat : Int) == 35) = false := by
            rw [Bool.eq_false_iff]; intro e
            exact b35 (UInt8.toNat_inj.1 (by have := eq_of_beq e; simpa using (by omega : (gt s K).toNat = 35)))
          have HB35 := Lib.hid (show (gt s K == 35) = false by simpa using b35); clear b35
          by_cases b10 : gt s K = 10
          · have c10 : (((gt s K).toNat : Int) != 10) = false := by rw [b10]; rfl
            have c32 : (((gt s K).toNat : Int) != 32) = true := by rw [b10]; rfl
            have HB10 := Lib.hid b10; clear b10
            cases C
            all_goals
              go_wp2
              refine ⟨⟨false, K + 1, by first | rfl | simp, by go_num, by omega, by omega, ?_, by first | rfl | trivial⟩, by simp [intOf]; omega⟩
              have h := HS1.out
              rw [HB35.out, show (gt s K != 10) = false by rw [HB10.out]; rfl, Bool.and_false, Bool.or_false] at h
              omega
          have c10 : (((gt s K).toNat : Int) != 10) = true := by
            rw [bne_iff_ne]; intro e
            exact b10 (UInt8.toNat_inj.1 (by simpa using (by omega : (gt s K).toNat = 10)))
          have HB10 := Lib.hid (show (gt s K != 10) = true by simpa using b10); clear b10
          cases C
          · have hg := HS2.out (by rw [HB35.out]; rfl)
            have b32 : gt s K = 32 := by
              have h10 := HB10.out
              simp only [gapB, Bool.or_eq_true, beq_iff_eq] at hg
              rcases hg with h | h
              · exact h
              · rw [h] at h10; simp at h10
            have c32 : (((gt s K).toNat : Int) != 32) = false := by rw [b32]; rfl
            clear b32 hg
            go_wp2
            refine ⟨⟨false, K + 1, by first | rfl | simp, by go_num, by omega, by omega, ?_, by first | rfl | trivial⟩, by simp [intOf]; omega⟩
            have h := HS1.out
            rw [HB35.out, Bool.false_and, Bool.or_false] at h
            omega
          · go_wp2
            refine ⟨⟨true, K + 1, by first | rfl | simp, by go_num, by omega, by omega, ?_, by first | rfl | trivial⟩, by simp [intOf]; omega⟩
            have h := HS1.out
            rw [HB35.out, HB10.out, Bool.true_and, Bool.or_true] at h
            omega
        · obtain rfl : K = a := by omega
          have hC := skipC_done s C K ha1 (by rw [hsk]; omega)
          subst hC
          clear hsk
          have hw3 : IntKind.i64.wrap ((s.length : Int) - (K : Int)) = ((s.length - K : Nat) : Int) := by rw [IntWalk.i64_in _ (by omega)]; omega
          obtain ⟨M, hM⟩ : ∃ M, M = K + (tg T n).text.length := ⟨_, rfl⟩
          have hw4 : IntKind.i64.wrap ((K : Int) + ((tg T n).text.length : Int)) = (M : Int) := by rw [IntWalk.i64_in _ (by omega)]; omega
          have hcut := HCUT.out
          have HP6 := HP5.out
          rw [← hM] at hcut HP6
          have HP5 := Lib.hid HP6; clear HP6
          have hb0 : (0 : Int) ≤ (K : Int) := by omega
          have hb01 : (0 : Int) ≤ (M : Int) := by omega
          have hb1 : (K : Int) ≤ (M : Int) := by omega
          have hb2 : (M : Int) ≤ (s.length : Int) := by omega
          have hb3 : K ≤ M := by omega
          have hb4 : M ≤ s.length := by omega
          have HM := Lib.hid hM; clear hM
          have hb5 : decide (((s.length - K : Nat) : Int) < ((tg T n).text.length : Int)) = false := by rw [decide_eq_false_iff_not]; omega
          have hb6 : (((tg T n).text.length : Int) == 0) = false := by rw [Bool.eq_false_iff]; intro e; have := eq_of_beq e; omega
          obtain ⟨x, hx1, hx2⟩ : ∃ x : Bool, isName (tg T n).text = x ∧ (((tg T n).kind : Int) == 1) = x := ⟨_, rfl, by
            unfold isName; rw [HKK.out]
            by_cases h : (tg T n).kind = 1
            · rw [h]; rfl
            · rw [show ((tg T n).kind == 1) = false by simpa using h]; simp; omega⟩
          have HX1 := Lib.hid hx1; clear hx1
          go_wp2
          go_quiet (fail)
          go_wp2_with fail
          refine (kind_any (tg T n).text _ (HE1.out.below (bdrewN HBQ.out _)) (by omega)).mono ?_
          rintro e w3 ⟨rfl, hb7⟩
          rw [HKK.out, HKE.out]
          have hb8 : Below wr.heap.size wr w3 := (bdrewN (Below.refl _ _) _).trans hb7
          clear hb7
          have HR3 := Lib.hid (HR.out.below hb8)
          have HB3 := Lib.hid (HBQ.out.trans (hb8.mono HBQ.out.size)); clear hb8
          have hk := HR3.out.kind n hlt
          have ht := HR3.out.text n hlt
          have hbl := HR3.out.lt
          have hk2 : (((tg T n).kind : Int) != ((tg T n).kind : Int)) = false := by simp
          cases x
          all_goals
            go_wp2_with fail
            refine (isName_any (tg T n).text _ (HE1.out.below HB3.out) (by omega)).mono ?_
            rintro e w4 ⟨rfl, hb9⟩
            rw [HX1.out]
            have HB4 := Lib.hid (HB3.out.trans (hb9.mono HB3.out.size)); clear hb9
            go_wp2
            exact ⟨⟨M, n + 1, by go_num, by go_num, by omega, fun _ => ⟨by omega, HP5.out⟩, HB4.out⟩, by simp [intOf]; omega⟩
    · have hn2 : n = T.length := by omega
      have hal := placed_nil (by omega) hp
      obtain rfl : a = s.length := by omega
      clear hp
      go_wp2
      go_loopw [9, 10] (fun c k wx => ∃ (C : Bool) (K : Nat), c = .bool C ∧ k = .int .i64 K ∧ E ≤ K ∧ K ≤ s.length ∧ skipC C (s.drop K) = s.length - K ∧ wx = wr) (fun _ k _ => s.length - (intOf k).toNat)
      case atStart => exact ⟨false, E, rfl, rfl, Nat.le_refl _, by omega, HSA.out, rfl⟩
      case round =>
        obtain ⟨C, K, rfl, rfl, hK1, hK2, hsk, rfl⟩ := hrel
        by_cases hlt2 : K < s.length
        · have hw1 : K < s.length := by omega
          obtain ⟨hs1, hs2⟩ := skipC_walk s C K hw1 (by rw [hsk]; omega)
          rw [hsk] at hs1
          have HS1 := Lib.hid hs1; clear hs1
          have HS2 := Lib.hid hs2; clear hs2
          have HSK := Lib.hid hsk; clear hsk
          by_cases b35 : gt s K = 35
          · have c35 : (((gt s K).toNat : Int) == 35) = true := by rw [b35]; rfl
            have HB35 := Lib.hid b35; clear b35
            go_wp2
            refine ⟨⟨true, K + 1, by first | rfl | simp, by go_num, by omega, by omega, ?_, by first | rfl | trivial⟩, by simp [intOf]; omega⟩
            have h := HS1.out
            rw [show (gt s K == 35) = true by rw [HB35.out]; rfl, Bool.true_or] at h
            omega
          have c35 : (((gt s K).toNat : Int) == 35) = false := by
            rw [Bool.eq_false_iff]; intro e
            exact b35 (UInt8.toNat_inj.1 (by have := eq_of_beq e; simpa using (by omega : (gt s K).toNat = 35)))
          have HB35 := Lib.hid (show (gt s K == 35) = false by simpa using b35); clear b35
          by_cases b10 : gt s K = 10
          · have c10 : (((gt s K).toNat : Int) != 10) = false := by rw [b10]; rfl
            have c32 : (((gt s K).toNat : Int) != 32) = true := by rw [b10]; rfl
            have HB10 := Lib.hid b10; clear b10
            cases C
            all_goals
              go_wp2
              refine ⟨⟨false, K + 1, by first | rfl | simp, by go_num, by omega, by omega, ?_, by first | rfl | trivial⟩, by simp [intOf]; omega⟩
              have h := HS1.out
              rw [HB35.out, show (gt s K != 10) = false by rw [HB10.out]; rfl, Bool.and_false, Bool.or_false] at h
              omega
          have c10 : (((gt s K).toNat : Int) != 10) = true := by
            rw [bne_iff_ne]; intro e
            exact b10 (UInt8.toNat_inj.1 (by simpa using (by omega : (gt s K).toNat = 10)))
          have HB10 := Lib.hid (show (gt s K != 10) = true by simpa using b10); clear b10
          cases C
          · have hg := HS2.out (by rw [HB35.out]; rfl)
            have b32 : gt s K = 32 := by
              have h10 := HB10.out
              simp only [gapB, Bool.or_eq_true, beq_iff_eq] at hg
              rcases hg with h | h
              · exact h
              · rw [h] at h10; simp at h10
            have c32 : (((gt s K).toNat : Int) != 32) = false := by rw [b32]; rfl
            clear b32 hg
            go_wp2
            refine ⟨⟨false, K + 1, by first | rfl | simp, by go_num, by omega, by omega, ?_, by first | rfl | trivial⟩, by simp [intOf]; omega⟩
            have h := HS1.out
            rw [HB35.out, Bool.false_and, Bool.or_false] at h
            omega
          · go_wp2
            refine ⟨⟨true, K + 1, by first | rfl | simp, by go_num, by omega, by omega, ?_, by first | rfl | trivial⟩, by simp [intOf]; omega⟩
            have h := HS1.out
            rw [HB35.out, HB10.out, Bool.true_and, Bool.or_true] at h
            omega
        · go_wp2
          exact ⟨⟨E, n + 1, rfl, by go_num, by omega, fun h => by omega, HBQ.out⟩, by simp [intOf]; omega⟩
end Go.Proofs.YtkckmnipidpdeaaDoor
