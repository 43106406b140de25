/-
  THE LAW CharsCleaned, walked: for any bytes it answers true and leaves the old memory as it was.
-/
import Derived.Test.YtfdcimkdhioepaaCZ
import Derived.Test.YtfdcimkdhioepaaCPlain8
namespace Go.Proofs.Ytfdcimkdhioepaa
open Go.RowKit Go.Shelf Mist
attribute [local go_sem] ofL_extract ofL_size ofL_get ofL_bytes ofL_append
set_option maxRecDepth 100000 in
set_option maxHeartbeats 8000000 in
theorem cleaned_law (v : Value) (l : Bs) (w : World) (hE : CEnv w) (hv : U8s w v l) (hl : l.length ≤ 4611686018427387904) :
    Calls Try.prog 10 #[v] w fun e w' => e = .returned (.bool true) ∧ Below w.heap.size w w' := by
  have HE := Lib.hid hE; clear hE
  have HV := Lib.hid (valid_by l 300 v w hv (by omega) hl); clear hv
  have hsl := validBy_len l 300
  have HCK := Lib.hid (show (check (validBy l 300)).2 = 0 by rw [validBy_check l 300 (by omega)])
  obtain ⟨s, hs⟩ : ∃ s, s = validBy l 300 := ⟨_, rfl⟩
  rw [← hs] at hsl HCK
  have HS := Lib.hid hs; clear hs
  have HC1 := Lib.hid (cleanOf_T s HCK.out)
  have htl := cleanT_len s
  have HC2 := Lib.hid (show cleanOf (cleanT s) = (cleanT s, 0) by rw [cleanOf_T _ (cleanT_check s HCK.out (by omega)), cleanT_again])
  have htl2 : (cleanT s).length ≤ 600 := by omega
  have HSO := Lib.hid (cleanT_solid s)
  have HAT := Lib.hid (cleanT_at s)
  have HME := Lib.hid (cleanT_mem s)
  obtain ⟨t, ht⟩ : ∃ t, t = cleanT s := ⟨_, rfl⟩
  rw [← ht] at HC1 htl2 HC2 HSO HAT HME
  clear htl
  have HT := Lib.hid ht; clear ht
  obtain ⟨S, hS⟩ : ∃ S, S = solid (strip false s) := ⟨_, rfl⟩
  rw [← hS] at HSO
  have HSS := Lib.hid hS; clear hS
  go_enter Try.func10, Try.ntmps10
  go_wp2_with fail
  refine HV.out.mono ?_
  rintro e w1 ⟨rfl, hb1⟩
  rw [← HS.out]
  have HB1 := Lib.hid hb1; clear hb1 HV
  go_wp2_with fail
  refine (cleanw s t _ (HE.out.below HB1.out) (by omega) HC1.out).mono ?_
  rintro e w2 ⟨rfl, hb2⟩
  have HB2 := Lib.hid (HB1.out.trans (hb2.mono HB1.out.size)); clear hb2
  go_wp2_with fail
  refine (cleanw t t _ (HE.out.below HB2.out) (by omega) HC2.out).mono ?_
  rintro e w3 ⟨rfl, hb3⟩
  have HB3 := Lib.hid (HB2.out.trans (hb3.mono HB2.out.size)); clear hb3
  by_cases h0 : t.length = 0
  case' neg =>
    have f0 : (((gt t 0).toNat : Int) == 32) = false := neI (byte_ne (k := 32) (fun e => by have := HAT.out 0 (by omega) e; omega) (by omega))
    have f1 : (((gt t (t.length - 1)).toNat : Int) == 32) = false := neI (byte_ne (k := 32) (fun e => by have := HAT.out (t.length - 1) (by omega) e; omega) (by omega))
  all_goals
    go_wp2
    go_loopw [8, 10, 11] (fun a c i wr => ∃ (n : Nat) (x : Bs) (cc : Bool), n ≤ s.length ∧ i = .int .i64 n ∧ a = .string (ofL x) ∧ c = .bool cc ∧ Hid (x ++ solid (strip cc (s.drop n)) = S) ∧ x.length ≤ n ∧ Below w.heap.size w wr) (fun _ _ i _ => s.length - (intOf i).toNat)
    case atStart => exact ⟨0, [], false, Nat.zero_le _, rfl, rfl, rfl, Lib.hid HSS.out.symm, Nat.zero_le _, HB3.out⟩
    case round =>
      obtain ⟨n, x, cc, hn, rfl, rfl, rfl, HX, hxl, hb⟩ := hrel
      have HB := Lib.hid hb; clear hb
      by_cases hlt : n < s.length
      · have HD := Lib.hid (drop_gt s n hlt)
        have HO := Lib.hid (one_at s n hlt)
        by_cases b35 : gt s n = 35
        · have g1 : (((gt s n).toNat : Int) == 35) = true := by rw [b35]; rfl
          have g2 : (((gt s n).toNat : Int) == 10) = false := by rw [b35]; rfl
          have HN := Lib.hid (show x ++ solid (strip true (s.drop (n + 1))) = S by have := HX.out; rw [HD.out, b35, strip_hash] at this; exact this)
          clear b35
          go_wp2
          exact ⟨⟨n + 1, x, true, by omega, by go_num, rfl, rfl, HN, by omega, HB.out⟩, by simp [intOf]; omega⟩
        have g1 : (((gt s n).toNat : Int) == 35) = false := neI (byte_ne (k := 35) b35 (by omega))
        by_cases b10 : gt s n = 10
        · have g2 : (((gt s n).toNat : Int) == 10) = true := by rw [b10]; rfl
          have g3 : (((gt s n).toNat : Int) != 10) = false := by rw [b10]; rfl
          have HN := Lib.hid (show x ++ solid (strip false (s.drop (n + 1))) = S by have := HX.out; rw [HD.out, b10, strip_feed] at this; exact this)
          clear b35 b10
          go_wp2
          exact ⟨⟨n + 1, x, false, by omega, by go_num, rfl, rfl, HN, by omega, HB.out⟩, by simp [intOf]; omega⟩
        have g2 : (((gt s n).toNat : Int) == 10) = false := neI (byte_ne (k := 10) b10 (by omega))
        have g3 : (((gt s n).toNat : Int) != 10) = true := neI' (byte_ne (k := 10) b10 (by omega))
        cases cc with
        | true =>
          have HN := Lib.hid (show x ++ solid (strip true (s.drop (n + 1))) = S by have := HX.out; rw [HD.out, strip_in _ _ b10] at this; exact this)
          clear b35 b10
          go_wp2
          exact ⟨⟨n + 1, x, true, by omega, by go_num, rfl, rfl, HN, by omega, HB.out⟩, by simp [intOf]; omega⟩
        | false =>
          by_cases b32 : gt s n = 32
          · have g4 : (((gt s n).toNat : Int) != 32) = false := by rw [b32]; rfl
            have HN := Lib.hid (show x ++ solid (strip false (s.drop (n + 1))) = S by have := HX.out; rw [HD.out, b32, strip_blank] at this; exact this)
            clear b35 b10 b32
            go_wp2
            exact ⟨⟨n + 1, x, false, by omega, by go_num, rfl, rfl, HN, by omega, HB.out⟩, by simp [intOf]; omega⟩
          · have g4 : (((gt s n).toNat : Int) != 32) = true := neI' (byte_ne (k := 32) b32 (by omega))
            have HN := Lib.hid (show (x ++ [gt s n]) ++ solid (strip false (s.drop (n + 1))) = S by have := HX.out; rw [HD.out, strip_put _ _ b35 b10 b32] at this; rw [List.append_assoc]; exact this)
            clear b35 b10 b32
            go_wp2
            refine ⟨⟨n + 1, x ++ [gt s n], false, by omega, by go_num, ?_, rfl, HN, by simp; omega, HB.out⟩, by simp [intOf]; omega⟩
            rw [HO.out]
      obtain rfl : n = s.length := by omega
      obtain rfl : x = S := by have h := HX.out; rw [List.drop_length] at h; simpa [strip, solid] using h
      clear HX hxl hlt
      go_wp2
      go_loopw [9, 12] (fun a i wr => ∃ (n : Nat), n ≤ t.length ∧ i = .int .i64 n ∧ a = .string (ofL (solid (t.take n))) ∧ Below w.heap.size w wr) (fun _ i _ => t.length - (intOf i).toNat)
      case atStart => exact ⟨0, Nat.zero_le _, rfl, rfl, HB.out⟩
      case round =>
        obtain ⟨n, hn, rfl, rfl, hb⟩ := hrel
        have HB := Lib.hid hb; clear hb
        by_cases hlt : n < t.length
        · first | (exfalso; omega) | skip
          all_goals
            have hm := HME.out (gt t n) (by rw [gt_eq t n hlt]; exact List.getElem_mem _)
            have g1 : (((gt t n).toNat : Int) == 35) = false := neI (byte_ne (k := 35) hm.1 (by omega))
            have g2 : (((gt t n).toNat : Int) == 10) = false := neI (byte_ne (k := 10) hm.2 (by omega))
            have HO := Lib.hid (one_at t n hlt)
            by_cases b32 : gt t n = 32
            · obtain ⟨q1, q2, _⟩ := HAT.out n hlt b32
              obtain ⟨m, rfl⟩ : ∃ m, n = m + 1 := ⟨n - 1, by omega⟩
              have g3 : (((gt t (m + 1)).toNat : Int) == 32) = true := by rw [b32]; rfl
              have g4 : (((gt t (m + 1)).toNat : Int) != 32) = false := by rw [b32]; rfl
              have g5 : (((gt t m).toNat : Int) == 32) = false := neI (byte_ne (k := 32) q2 (by omega))
              have HN := Lib.hid (show solid (t.take (m + 1 + 1)) = solid (t.take (m + 1)) by rw [take_gt t (m + 1) hlt, solid_append, b32]; simp [solid, gapB])
              clear b32 hm q1 q2
              go_wp2
              refine ⟨⟨m + 1 + 1, by omega, by go_num, ?_, HB.out⟩, by simp [intOf]; omega⟩
              rw [HN.out]
            · have hsl2 : (solid (t.take n)).length ≤ 600 := by
                have h1 : (solid (t.take n)).length ≤ (t.take n).length := List.length_filter_le _ _
                have h2 : (t.take n).length ≤ n := by simp; omega
                omega
              have g3 : (((gt t n).toNat : Int) == 32) = false := neI (byte_ne (k := 32) b32 (by omega))
              have g4 : (((gt t n).toNat : Int) != 32) = true := neI' (byte_ne (k := 32) b32 (by omega))
              have HN := Lib.hid (show solid (t.take (n + 1)) = solid (t.take n) ++ [gt t n] by
                rw [take_gt t n hlt, solid_append]
                have : gapB (gt t n) = false := by unfold gapB; simp [b32, hm.2]
                simp [solid, this])
              clear b32 hm
              obtain ⟨Y, hY⟩ : ∃ Y, Y = solid (t.take n) := ⟨_, rfl⟩
              rw [← hY] at hsl2 HN ⊢
              clear hY
              go_wp2
              refine ⟨⟨n + 1, by omega, by go_num, ?_, HB.out⟩, by simp [intOf]; omega⟩
              rw [HN.out, HO.out]
        · obtain rfl : n = t.length := by omega
          have HEQ := Lib.hid (show solid (t.take t.length) = x by rw [List.take_length]; exact HSO.out)
          rw [HEQ.out]
          go_wp2_with fail
          refine (known_any _ (HE.out.below HB.out)).mono ?_
          rintro e wz ⟨rfl, hbz⟩
          have HBZ := Lib.hid (HB.out.trans (hbz.mono HB.out.size)); clear hbz
          go_wp2_with fail
          go_ret
          exact ⟨rfl, HBZ.out⟩
end Go.Proofs.Ytfdcimkdhioepaa
