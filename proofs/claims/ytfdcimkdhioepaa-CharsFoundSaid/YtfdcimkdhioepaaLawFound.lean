/-
  THE LAW CharsFound, walked: for any bytes and any number it answers true and leaves the old memory as it was.
-/
import Derived.Test.YtfdcimkdhioepaaCZ
import Derived.Test.YtfdcimkdhioepaaCPlain9
namespace Go.Proofs.Ytfdcimkdhioepaa
open Go.RowKit Go.Shelf Mist
attribute [local go_sem] ofL_extract ofL_size ofL_get ofL_bytes ofL_append
theorem nat_mem_take (l : List Nat) (n a : Nat) (h : n < l.length) : decide (a ∈ l.take (n + 1)) = (decide (a ∈ l.take n) || decide (l.getD n 0 = a)) := by
  rw [List.take_succ_eq_append_getElem h, Bool.eq_iff_iff]
  have e : l.getD n 0 = l[n] := by simp [h]
  rw [e]
  constructor
  · intro g
    rcases List.mem_append.1 (of_decide_eq_true g) with g | g
    · simp [g]
    · have := List.mem_singleton.1 g
      simp [this]
  · intro g
    rw [Bool.or_eq_true] at g
    rcases g with g | g
    · exact decide_eq_true (List.mem_append_left _ (of_decide_eq_true g))
    · exact decide_eq_true (List.mem_append_right _ (List.mem_singleton.2 (of_decide_eq_true g).symm))
set_option maxRecDepth 100000 in
set_option maxHeartbeats 16000000 in
theorem found_law (v0 : Value) (l0 : Bs) (v1 : Value) (l1 : Bs) (p : Nat) (w : World) (hE : CEnv w) (hv0 : U8s w v0 l0) (hl0 : l0.length ≤ 4611686018427387904) (hv1 : U8s w v1 l1) (hl1 : l1.length ≤ 4611686018427387904) (hp : p < 65536) :
    Calls Try.prog 11 #[v0, v1, .int .u16 p] w fun e w' => e = .returned (.bool true) ∧ Below w.heap.size w w' := by
  have HE := Lib.hid hE; clear hE
  have hsl := validBy_len l0 200
  have HCK := Lib.hid (show (check (validBy l0 200)).2 = 0 by rw [validBy_check l0 200 (by omega)])
  have hxl0 := validBy_len l1 4
  have HCX0 := Lib.hid (show (check (validBy l1 4)).2 = 0 by rw [validBy_check l1 4 (by omega)])
  have HV0 := Lib.hid (valid_by l0 200 v0 w hv0 (by omega) hl0); clear hv0
  have HV1 := Lib.hid hv1; clear hv1
  obtain ⟨s, hs⟩ : ∃ s, s = validBy l0 200 := ⟨_, rfl⟩
  obtain ⟨y, hy⟩ : ∃ x, x = validBy l1 4 := ⟨_, rfl⟩
  rw [← hs] at hsl HCK
  rw [← hy] at hxl0 HCX0
  have HS := Lib.hid hs; clear hs
  have HY := Lib.hid hy; clear hy
  obtain ⟨a, ha⟩ : ∃ a, a = p % (s.length + 1) := ⟨_, rfl⟩
  have hal : a ≤ s.length := by have := Nat.mod_lt p (show 0 < s.length + 1 by omega); omega
  have ht1 : Int.tmod (p : Int) ((s.length : Int) + 1) = (a : Int) := by rw [Int.tmod_eq_emod_of_nonneg (by omega), ha, Int.natCast_emod]; rfl
  clear ha
  go_enter Try.func11, Try.ntmps11
  go_wp2_with fail
  refine HV0.out.mono ?_
  rintro e w1 ⟨rfl, hb1⟩
  rw [← HS.out]
  have HV1b := Lib.hid (HV1.out.below hb1)
  have HB1 := Lib.hid hb1; clear hb1 HV0
  go_wp2_with fail
  refine (valid_by l1 4 v1 _ HV1b.out (by omega) hl1).mono ?_
  rintro e w2 ⟨rfl, hb2⟩
  rw [← HY.out]
  have HB2 := Lib.hid (HB1.out.trans (hb2.mono HB1.out.size)); clear hb2
  by_cases hy0 : y = []
  case' pos =>
    subst hy0
    have g0 : ([] : Bs).isEmpty = true := rfl
    go_wp2_with fail
    rw [show ({ data := #[97] } : ByteArray) = ofL [97] from rfl]
    have hx0 : ([97] : Bs) ≠ [] := by simp
    have hxl : ([97] : Bs).length ≤ 4 := by simp
    have HCX := Lib.hid (show (check [97]).2 = 0 by decide)
    obtain ⟨x, hx⟩ : ∃ x, x = ([97] : Bs) := ⟨_, rfl⟩
    rw [← hx]
    rw [← hx] at hx0 hxl HCX
    clear hx hxl0 HCX0 HY
  case' neg =>
    have g0 : y.isEmpty = false := by simp [hy0]
    obtain ⟨x, hx⟩ : ∃ x, x = y := ⟨_, rfl⟩
    subst hx
    have hx0 := hy0
    have hxl := hxl0
    have HCX := HCX0
    go_wp2_with fail
    clear hy0 hxl0 HCX0
  all_goals
    clear g0
    have hxp : 0 < x.length := List.length_pos_iff.2 hx0
    have HF1 := Lib.hid (show findOf s x = (foundUpTo s x s.length, 0) by rw [findOf_ok s x (by unfold err2; rw [if_neg (by simpa using HCK.out)]; exact HCX.out) hx0])
    have HAT := Lib.hid (found_at s x)
    have HYES := Lib.hid (found_yes s x)
    have HNO := Lib.hid (found_no s x)
    have HREST := Lib.hid (found_rest s x)
    have HCUT := Lib.hid (prefix_cut s x)
    have HLEN := Lib.hid (found_len s x)
    have htl := outIn_len s x a a (Nat.le_refl _) hal
    have HCT := Lib.hid (outIn_valid s x a a HCK.out HCX.out (by omega))
    have HS1 := Lib.hid (show spliceOf s a 0 x = (outIn s x a a, 0) from splice_in s x a 0 HCK.out HCX.out (by omega) (by omega))
    have HF2 := Lib.hid (show findOf (outIn s x a a) x = (foundUpTo (outIn s x a a) x (outIn s x a a).length, 0) by rw [findOf_ok _ x (by unfold err2; rw [if_neg (by simpa using HCT.out)]; exact HCX.out) hx0])
    have HPUT := Lib.hid (found_put s x a hal hx0)
    have hml := found_len (outIn s x a a) x (outIn s x a a).length
    obtain ⟨t, ht⟩ : ∃ t, t = outIn s x a a := ⟨_, rfl⟩
    rw [← ht] at htl HCT HS1 HF2 HPUT hml
    have HT := Lib.hid ht; clear ht
    obtain ⟨M, hM⟩ : ∃ M, M = foundUpTo t x t.length := ⟨_, rfl⟩
    rw [← hM] at HF2 HPUT hml
    have HM := Lib.hid hM; clear hM
    obtain ⟨L, hL⟩ : ∃ L, L = foundUpTo s x s.length := ⟨_, rfl⟩
    have hll : L.length ≤ s.length := by rw [hL]; exact found_len s x s.length
    rw [← hL] at HF1
    have HL := Lib.hid hL; clear hL hx0
    refine (findw s x L _ (by omega) (by omega) HF1.out).mono ?_
    rintro e w3 ⟨v3, rfl, hi3, hb3⟩
    obtain ⟨A, c, rfl⟩ : ∃ A c, v3 = .slice A L.length c := by obtain ⟨A, c, h, _⟩ := hi3; exact ⟨A, c, h⟩
    have HI3 := Lib.hid hi3; clear hi3
    have HB3 := Lib.hid (HB2.out.trans (hb3.mono HB2.out.size)); clear hb3
    go_wp2
    go_loopw [11, 12] (fun m i wr => ∃ n q : Nat, n ≤ s.length ∧ i = .int .i64 n ∧ q ≤ n ∧ m = .int .i64 q ∧ Hid ((foundUpTo s x n).length = q) ∧ wr = w3) (fun _ i _ => s.length - (intOf i).toNat)
    case atStart => exact ⟨0, 0, Nat.zero_le _, rfl, Nat.zero_le _, rfl, Lib.hid rfl, rfl⟩
    case round =>
      obtain ⟨n, q, hn, rfl, hqn, rfl, HQ, rfl⟩ := hrel
      by_cases hlt : n + x.length ≤ s.length
      · by_cases hpx : List.drop n (List.take (n + x.length) s) = x
        · have hpf := (HCUT.out n hlt).2 hpx
          have g1 : (List.drop n (List.take (n + x.length) s) == x) = true := by rw [hpx]; simp
          obtain ⟨k1, k2⟩ := HAT.out n s.length (by omega) hpf
          rw [← HL.out, HQ.out] at k1 k2
          have HN := Lib.hid (show (foundUpTo s x (n + 1)).length = q + 1 by rw [HYES.out n hpf, List.length_append, HQ.out]; rfl)
          obtain ⟨b, o, rfl, hr⟩ := HI3.out.rowA (by omega)
          have hc := hr.at_ q k1
          rw [k2] at hc
          have hblt := hr.lt
          clear hr hpf hpx k2
          go_wp2
          exact ⟨⟨n + 1, q + 1, by omega, by go_num, by omega, by go_num, HN, by first | rfl | trivial⟩, by simp [intOf]; omega⟩
        · have g1 : (List.drop n (List.take (n + x.length) s) == x) = false := by simp [hpx]
          have HN := Lib.hid (show (foundUpTo s x (n + 1)).length = q by
            rw [HNO.out n (by
              have := HCUT.out n hlt
              cases h : x.isPrefixOf (s.drop n) with
              | true => exact absurd (this.1 h) hpx
              | false => rfl), HQ.out])
          clear hpx
          go_wp2
          exact ⟨⟨n + 1, q, by omega, by go_num, by omega, rfl, HN, by first | rfl | trivial⟩, by simp [intOf]; omega⟩
      · have hqe : q = L.length := by
          have h := HREST.out n (by omega) hxp (s.length - n)
          rw [show n + (s.length - n) = s.length by omega, ← HL.out] at h
          rw [h, HQ.out]
        subst hqe
        clear HQ hqn
        go_wp2_with fail
        refine (splicew s x t a 0 _ (by omega) (by omega) HS1.out).mono ?_
        rintro e w4 ⟨rfl, hb4⟩
        have HB4 := Lib.hid (HB3.out.trans (hb4.mono HB3.out.size)); clear hb4
        go_wp2_with fail
        refine (findw t x M _ (by omega) (by omega) HF2.out).mono ?_
        rintro e w5 ⟨v5, rfl, hi5, hb5⟩
        obtain ⟨A5, c5, rfl⟩ : ∃ A c, v5 = .slice A M.length c := by obtain ⟨A, c, h, _⟩ := hi5; exact ⟨A, c, h⟩
        have HI5 := Lib.hid hi5; clear hi5
        have HB5 := Lib.hid (HB4.out.trans (hb5.mono HB4.out.size)); clear hb5
        go_wp2
        go_loopw [18, 19] (fun f i wr => ∃ n : Nat, n ≤ M.length ∧ i = .int .i64 n ∧ f = .bool (decide (a ∈ M.take n)) ∧ wr = w5) (fun _ i _ => M.length - (intOf i).toNat)
        case atStart => exact ⟨0, Nat.zero_le _, rfl, by simp, rfl⟩
        case round =>
          obtain ⟨n, hn, rfl, rfl, rfl⟩ := hrel
          by_cases hlt : n < M.length
          · have HN := Lib.hid (nat_mem_take M n a hlt)
            obtain ⟨b, o, rfl, hr⟩ := HI5.out.rowA (by omega)
            have hc := hr.at_ n hlt
            have hblt := hr.lt
            clear hr
            obtain ⟨d, hd⟩ : ∃ d, d = decide (a ∈ M.take n) := ⟨_, rfl⟩
            rw [← hd] at HN ⊢
            clear hd
            obtain ⟨z, hz⟩ : ∃ z, z = M.getD n 0 := ⟨_, rfl⟩
            rw [← hz] at HN hc
            clear hz
            cases d with
            | true =>
              go_wp2
              exact ⟨⟨n + 1, by omega, by go_num, by rw [HN.out]; rfl, by first | rfl | trivial⟩, by simp [intOf]; omega⟩
            | false =>
              go_wp2
              refine ⟨⟨n + 1, by omega, by go_num, ?_, by first | rfl | trivial⟩, by simp [intOf]; omega⟩
              rw [HN.out, Bool.false_or]
              congr 1
              rw [Bool.eq_iff_iff]; simp; omega
          · obtain rfl : n = M.length := by omega
            have HD := Lib.hid (show decide (a ∈ M.take M.length) = true by rw [List.take_length]; simpa using HPUT.out)
            rw [HD.out]
            go_wp2_with fail
            refine (known_any _ (HE.out.below HB5.out)).mono ?_
            rintro e wz ⟨rfl, hbz⟩
            have HBZ := Lib.hid (HB5.out.trans (hbz.mono HB5.out.size)); clear hbz
            go_wp2_with fail
            go_ret
            exact ⟨rfl, HBZ.out⟩
end Go.Proofs.Ytfdcimkdhioepaa
