/-
  WALKS of chapter 1: mistref01.Find.
-/
import Derived.Test.YtfdcimkdhioepaaCS
namespace Go.Proofs.Ytfdcimkdhioepaa
open Go.RowKit Go.Shelf Mist
attribute [local go_sem] ofL_extract ofL_size ofL_get ofL_bytes ofL_append
theorem prefix_cut (s part : Bs) (n : Nat) : (part.isPrefixOf (s.drop n)) = (List.drop n (List.take (n + part.length) s) == part) := by
  rw [Bool.eq_iff_iff, List.isPrefixOf_iff_prefix, List.prefix_iff_eq_take, beq_iff_eq, List.drop_take, show n + part.length - n = part.length by omega]
  exact eq_comm
theorem found_rest (s part : Bs) (n : Nat) (hp : 0 < part.length) (h : s.length < n + part.length) : ∀ k, foundUpTo s part (n + k) = foundUpTo s part n
  | 0 => rfl
  | k + 1 => by
    have hno : part.isPrefixOf (s.drop (n + k)) = false := by
      rw [Bool.eq_false_iff]
      intro e
      have := (List.isPrefixOf_iff_prefix.1 e).length_le
      rw [List.length_drop] at this
      omega
    rw [show n + (k + 1) = n + k + 1 by omega, found_no s part (n + k) hno, found_rest s part n hp h k]
set_option maxRecDepth 100000 in
set_option maxHeartbeats 3200000 in
theorem rfind_any (s part : Bs) (w : World) (hl : s.length ≤ 100000000) (hp : part.length ≤ 100000000) :
    Calls Try.prog 28 #[.string (ofL s), .string (ofL part)] w (FindPost s part w) := by
  by_cases hc : (check s).2 = 0
  case neg =>
    have hc' : (((check s).2 : Int) != 0) = true := by simp; omega
    have HC := Lib.hid (findOf_bad s part (by rw [err2_left hc]; exact hc))
    have HE := Lib.hid (err2_left (t := part) hc); clear hc
    go_enter Try.func28, Try.ntmps28
    go_wp2_with fail
    refine (rcheck_any s _ hl).mono ?_
    rintro e w' ⟨rfl, rfl⟩
    go_wp2
    go_ret2
    exact findPost_of HC.out (by rw [HE.out]) (Ints.none_ _) (Below.refl _ _)
  have hc' : (((check s).2 : Int) != 0) = false := by simp [hc]
  by_cases hd : (check part).2 = 0
  case neg =>
    have hd' : (((check part).2 : Int) != 0) = true := by simp; omega
    have HC := Lib.hid (findOf_bad s part (by rw [err2_right hc]; exact hd))
    have HE := Lib.hid (err2_right (t := part) hc); clear hc hd
    go_enter Try.func28, Try.ntmps28
    go_wp2_with fail
    refine (rcheck_any s _ hl).mono ?_
    rintro e w' ⟨rfl, rfl⟩
    go_wp2_with fail
    refine (rcheck_any part _ hp).mono ?_
    rintro e w' ⟨rfl, rfl⟩
    go_wp2
    go_ret2
    exact findPost_of HC.out (by rw [HE.out]) (Ints.none_ _) (Below.refl _ _)
  have hd' : (((check part).2 : Int) != 0) = false := by simp [hd]
  have he : err2 s part = 0 := by rw [err2_right hc]; exact hd
  clear hc hd
  by_cases hpn : part = []
  · have HC := Lib.hid (findOf_nil s part he hpn); clear he
    subst hpn
    go_enter Try.func28, Try.ntmps28
    go_wp2_with fail
    refine (rcheck_any s _ hl).mono ?_
    rintro e w' ⟨rfl, rfl⟩
    go_wp2_with fail
    refine (rcheck_any [] _ hp).mono ?_
    rintro e w' ⟨rfl, rfl⟩
    go_wp2
    go_ret2
    exact findPost_of HC.out rfl (Ints.none_ _) (Below.refl _ _)
  have hpe2 : (part == []) = false := by rw [beq_eq_false_iff_ne]; exact hpn
  have hpe3 : part.isEmpty = false := by cases part with | nil => exact absurd rfl hpn | cons _ _ => rfl
  have hpl : 0 < part.length := by cases part with | nil => exact absurd rfl hpn | cons _ _ => simp
  have HC := Lib.hid (findOf_ok s part he hpn); clear he hpn
  obtain ⟨i0, hi0, hz0, hz1, hz2⟩ := info_parts int_info
  go_enter Try.func28, Try.ntmps28
  go_wp2_with fail
  refine (rcheck_any s _ hl).mono ?_
  rintro e w' ⟨rfl, rfl⟩
  go_wp2_with fail
  refine (rcheck_any part _ hp).mono ?_
  rintro e w' ⟨rfl, rfl⟩
  go_wp2
  go_loopw [10, 11] (fun v i wr => ∃ n : Nat, n ≤ s.length ∧ i = .int .i64 n ∧ wr.ownsRow w.heap.size 3 1 v (foundUpTo s part n).length ((foundUpTo s part n).map fun (n : Nat) => Value.int .i64 n) ∧ Below w.heap.size w wr) (fun _ i _ => s.length - (intOf i).toNat)
  case atStart => exact ⟨0, Nat.zero_le _, rfl, World.ownsRow_made _ _ _ (Nat.le_refl _) (by simp [maxLen]) rfl, (Below.refl _ _).alloc (Nat.le_refl _) _⟩
  case round =>
    obtain ⟨n, hn, rfl, hown, hb⟩ := hrel
    have hz := hb.size
    have HB := Lib.hid hb; clear hb
    have hfl := found_len s part n
    obtain ⟨z, hzz⟩ : ∃ z : Nat, z = n + part.length := ⟨_, rfl⟩
    have hzi : (n : Int) + (part.length : Int) = (z : Int) := by omega
    have hpc := prefix_cut s part n
    rw [← hzz] at hpc
    have HZ := Lib.hid hzz; clear hzz
    have hzn : n < z := by omega
    by_cases hlt : z ≤ s.length
    · have hb0 : (0 : Int) ≤ (n : Int) := by omega
      have hb1 : (n : Int) ≤ (z : Int) := by omega
      have hb2 : (z : Int) ≤ (s.length : Int) := by omega
      cases hpx : part.isPrefixOf (s.drop n)
      · have HX := Lib.hid (found_no s part n hpx)
        rw [hpx] at hpc
        have hpc2 := hpc.symm
        clear hpx hpc
        have HO := Lib.hid hown; clear hown
        go_wp2
        exact ⟨⟨n + 1, by omega, by go_num, by rw [HX.out]; exact HO.out, HB.out⟩, by simp [intOf]; omega⟩
      · have HX := Lib.hid (found_yes s part n hpx)
        rw [hpx] at hpc
        have hpc2 := hpc.symm
        clear hpx hpc
        obtain ⟨A, c, hv⟩ := own_form hown
        obtain ⟨m, hm⟩ : ∃ m, m = (foundUpTo s part n).length := ⟨_, rfl⟩
        rw [← hm] at hv hown hfl
        subst hv
        have HM := Lib.hid hm; clear hm
        have HO := Lib.hid hown; clear hown
        go_wp2_with (at_builtin; refine wpList_append_own _ rfl (.tmp 49) (.tmp 51) 35 rfl w.heap.size 3 i0 _ 1 8 Try.underlying35 hi0 hz0 hz1 hz2 rfl (by decide) _ m ((foundUpTo s part n).map fun (n : Nat) => Value.int .i64 n) rfl (HO.out.alloc _) ⟨wr.heap.size, 0, none⟩ 1 1 [.int .i64 n] rfl rfl ?c1 ?c2 ?c3 ?c4 ?c5 ?_)
        case c1 => exact World.news_of_block (cs := #[.int .i64 n]) (t := 3) (fr := (0, 0)) (heap_alloc_new wr _)
        case c2 => intro u hu; rcases List.mem_singleton.1 hu with rfl; rfl
        case c3 => simp only [maxLen]; omega
        case c4 => omega
        case c5 => simp; omega
        intro v2 w3 hown2 hg2 _
        have hb2 : Below w.heap.size w w3 := (HB.out.alloc HB.out.size _).grown hg2 (by simp; omega) (fun k hk => (HO.out.lt k hk).1)
        have HO2 := Lib.hid hown2; clear hown2
        have HB2 := Lib.hid hb2; clear hb2 hg2
        go_wp2
        refine ⟨⟨n + 1, by omega, by go_num, ?_, HB2.out⟩, by simp [intOf]; omega⟩
        have h := HO2.out
        rw [HX.out, List.length_append, List.length_singleton, List.map_append, ← HM.out]
        exact h
    · have HO := Lib.hid hown; clear hown
      have HX := Lib.hid (show foundUpTo s part s.length = foundUpTo s part n by have := found_rest s part n hpl (by have := HZ.out; omega) (s.length - n); rw [show n + (s.length - n) = s.length by omega] at this; exact this)
      have hlt2 : s.length < z := by omega
      go_wp2
      go_ret2
      exact findPost_of (HC.out.trans (by rw [HX.out])) rfl (Ints.of_own HO.out) HB.out
end Go.Proofs.Ytfdcimkdhioepaa
