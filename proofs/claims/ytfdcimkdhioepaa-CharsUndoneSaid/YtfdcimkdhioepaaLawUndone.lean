/-
  THE LAW CharsUndone, walked: for any bytes it answers true and leaves the old memory as it was.
-/
import Derived.Deep.QuietTactic
import Derived.BigQuiet
import Derived.IntWalk
import Derived.Test.YtfdcimkdhioepaaCY
import Derived.Test.YtfdcimkdhioepaaCPlain7
namespace Go.Proofs.Ytfdcimkdhioepaa
open Go.RowKit Go.Shelf Mist
attribute [local go_sem] ofL_extract ofL_size ofL_get ofL_bytes ofL_append
theorem eqU {a b : Int} (h : a = b) : (a == b) = true := by rw [h]; simp
theorem neU {a b : Int} (h : a ≠ b) : (a != b) = true := by simp [bne, h]
set_option maxRecDepth 100000 in
set_option maxHeartbeats 16000000 in
theorem undone_law (v0 : Value) (l0 : Bs) (v1 : Value) (l1 : Bs) (p q : Nat) (w : World) (hE : CEnv w) (hv0 : U8s w v0 l0) (hl0 : l0.length ≤ 4611686018427387904) (hv1 : U8s w v1 l1) (hl1 : l1.length ≤ 4611686018427387904) (hp : p < 65536) (hq : q < 65536) :
    Calls Try.prog 9 #[v0, v1, .agg #[.int .u16 p, .int .u16 q]] w fun e w' => e = .returned (.bool true) ∧ Below w.heap.size w w' := by
  have HE := Lib.hid hE; clear hE
  have hsl := validBy_len l0 300
  have HCK := Lib.hid (show (check (validBy l0 300)).2 = 0 by rw [validBy_check l0 300 (by omega)])
  have hxl := validBy_len l1 60
  have HCX := Lib.hid (show (check (validBy l1 60)).2 = 0 by rw [validBy_check l1 60 (by omega)])
  obtain ⟨s, hs⟩ : ∃ s, s = validBy l0 300 := ⟨_, rfl⟩
  obtain ⟨x, hx⟩ : ∃ x, x = validBy l1 60 := ⟨_, rfl⟩
  rw [← hs] at hsl HCK
  rw [← hx] at hxl HCX
  have HS := Lib.hid hs; clear hs
  have HX := Lib.hid hx; clear hx
  have bV := Blk.new w 49 #[.int .u16 p, .int .u16 q]
  have hw0 : Below w.heap.size w (w.alloc (.cells #[.int .u16 p, .int .u16 q] 49)) := (Below.refl _ _).alloc (Nat.le_refl _) _
  have hz0 : w.heap.size < (w.alloc (.cells #[.int .u16 p, .int .u16 q] 49)).heap.size := by simp
  have HV0 := Lib.hid (hv0.below hw0); clear hv0
  have HV1 := Lib.hid (hv1.below hw0); clear hv1
  go_enter Try.func9, Try.ntmps9
  go_wp2_with fail
  refine (valid_by l0 300 v0 _ HV0.out (by omega) hl0).mono ?_
  rintro e w1 ⟨rfl, hb1⟩
  rw [← HS.out]
  have HV1b := Lib.hid (HV1.out.below hb1)
  have bV1 := bV.below hb1 hz0
  have hz1 := Nat.lt_of_lt_of_le hz0 hb1.size
  have HB1 := Lib.hid (hw0.trans (hb1.mono hw0.size)); clear hb1 hw0 bV hz0
  go_wp2_with fail
  refine (valid_by l1 60 v1 _ HV1b.out (by omega) hl1).mono ?_
  rintro e w2 ⟨rfl, hb2⟩
  rw [← HX.out]
  have bV2 := bV1.below hb2 hz1
  have hz2 := Nat.lt_of_lt_of_le hz1 hb2.size
  have HB2 := Lib.hid (HB1.out.trans (hb2.mono HB1.out.size)); clear hb2 bV1
  have c0 : w2.cell? ⟨w.heap.size, 0, none⟩ = some (.int .u16 p) := bV2.cell 0
  have c1 : w2.cell? ⟨w.heap.size, 1, none⟩ = some (.int .u16 q) := bV2.cell 1
  obtain ⟨a, ha⟩ : ∃ a, a = p % (s.length + 1) := ⟨_, rfl⟩
  have hal : a ≤ s.length := by have := Nat.mod_lt p (show 0 < s.length + 1 by omega); omega
  obtain ⟨m, hm⟩ : ∃ m, m = q % (s.length - a + 1) := ⟨_, rfl⟩
  have hml : a + m ≤ s.length := by have := Nat.mod_lt q (show 0 < s.length - a + 1 by omega); omega
  have ht1 : Int.tmod (p : Int) ((s.length : Int) + 1) = (a : Int) := by rw [Int.tmod_eq_emod_of_nonneg (by omega), ha, Int.natCast_emod]; rfl
  have ht2 : Int.tmod (q : Int) ((s.length : Int) - (a : Int) + 1) = (m : Int) := by rw [Int.tmod_eq_emod_of_nonneg (by omega), hm, show (s.length : Int) - (a : Int) + 1 = ((s.length - a + 1 : Nat) : Int) by omega, Int.natCast_emod]
  clear ha hm
  obtain ⟨z, hz⟩ : ∃ z, z = a + m := ⟨_, rfl⟩
  have hza : a ≤ z := by omega
  have hzl : z ≤ s.length := by omega
  have hzi : (a : Int) + (m : Int) = (z : Int) := by omega
  have HP1 := Lib.hid (patch_zero s x a m HCK.out HCX.out hml (by omega))
  have HS1 := Lib.hid (show spliceOf s a m x = (outIn s x a z, 0) by rw [hz]; exact splice_in s x a m HCK.out HCX.out hml (by omega))
  have htl := outIn_len s x a z hza hzl
  have HCT := Lib.hid (outIn_valid s x a z HCK.out HCX.out (by omega))
  have HCM := Lib.hid (mid_check s a z HCK.out (by omega))
  have hmd := mid_len s a z hza hzl
  have HP2 := Lib.hid (patch_zero (outIn s x a z) (List.drop a (List.take z s)) a x.length HCT.out HCM.out (by omega) (by omega))
  have HS2 := Lib.hid (show spliceOf (outIn s x a z) a x.length (List.drop a (List.take z s)) = (s, 0) by rw [splice_in _ _ a x.length HCT.out HCM.out (by omega) (by omega), outIn_back s x a z hza hzl])
  have HLO := Lib.hid (fun k => gt_low s x a z k hal)
  have HHI := Lib.hid (fun k q => gt_high s x a z k q hal)
  obtain ⟨t, ht⟩ : ∃ t, t = outIn s x a z := ⟨_, rfl⟩
  rw [← ht] at HS1 htl HP2 HS2 HLO HHI
  have HT := Lib.hid ht; clear ht
  have htm : t.length + m = s.length + x.length := by omega
  have htI : (s.length : Int) - (m : Int) + (x.length : Int) = (t.length : Int) := by omega
  have htl3 : t.length ≤ 360 := by omega
  have hmd2 : (List.drop a (List.take z s)).length = m := by omega
  clear htl hmd
  have HZ := Lib.hid hz; clear hz
  have hb0 : (0 : Int) ≤ (a : Int) := by omega
  have hb1 : (a : Int) ≤ (z : Int) := by omega
  have hb2 : (z : Int) ≤ (s.length : Int) := by omega
  go_wp2_with fail
  refine (splicew s x t a m _ (by omega) (by omega) HS1.out).mono ?_
  rintro e w3 ⟨rfl, hb3⟩
  have HB3 := Lib.hid (HB2.out.trans (hb3.mono HB2.out.size)); clear hb3 c0 c1 bV2
  go_wp2_with fail
  refine (splicew t (List.drop a (List.take z s)) s a x.length _ (by omega) (by omega) HS2.out).mono ?_
  rintro e w4 ⟨rfl, hb4⟩
  have HB4 := Lib.hid (HB3.out.trans (hb4.mono HB3.out.size)); clear hb4
  go_wp2
  go_loopw [15] (fun i wr => ∃ n : Nat, n ≤ s.length + 1 ∧ i = .int .i64 n ∧ Below w.heap.size w wr) (fun i _ => s.length + 1 - (intOf i).toNat)
  case atStart => exact ⟨0, Nat.zero_le _, rfl, HB4.out⟩
  case round =>
    obtain ⟨k, hk, rfl, hb⟩ := hrel
    have HB := Lib.hid hb; clear hb
    by_cases hlt : k ≤ s.length
    · by_cases hka : k < a
      · have HM1 := Lib.hid (moved_low s x a m k HP1.out hlt (by omega))
        have HM2 := Lib.hid (moved_low t (List.drop a (List.take z s)) a x.length k HP2.out (by omega) (by omega))
        have hne : (((gt t k).toNat : Int) != ((gt s k).toNat : Int)) = false := by rw [HLO.out k hka]; simp
        go_wp2_with fail
        refine (movedw s x a m k k _ (by omega) (by omega) HM1.out).mono ?_
        rintro e w5 ⟨rfl, hb5⟩
        have HB5 := Lib.hid (HB.out.trans (hb5.mono HB.out.size)); clear hb5
        go_wp2_with fail
        refine (movedw t (List.drop a (List.take z s)) a x.length k k _ (by omega) (by omega) HM2.out).mono ?_
        rintro e w6 ⟨rfl, hb6⟩
        have HB6 := Lib.hid (HB5.out.trans (hb6.mono HB5.out.size)); clear hb6
        go_wp2_with fail
        have q1 : decide ((k : Int) < (s.length : Int)) = true := by simp; have := HZ.out; omega
        have q1n : decide (k < s.length) = true := by simp; have := HZ.out; omega
        have q2 : decide ((k : Int) < (a : Int)) = true := by simp; have := HZ.out; omega
        have q2n : decide (k < a) = true := by simp; have := HZ.out; omega
        have q3 : (k : Int) < (t.length : Int) := by have := HZ.out; omega
        have q4 : (k : Int) < (s.length : Int) := by have := HZ.out; omega
        have q5 : (0 : Int) ≤ (k : Int) := by have := HZ.out; omega
        have qz : IntKind.i64.wrap ((a : Int) + (m : Int)) = (z : Int) := by rw [IntWalk.i64_in _ ⟨by omega, by omega⟩]; have := HZ.out; omega
        go_quiet (fail)
        clear qz
        go_wp2
        exact ⟨⟨k + 1, by omega, by go_num, bdrewN HB6.out _⟩, by simp [intOf]; omega⟩
      by_cases hke : k = a
      · have hke1 : k ≤ a := by omega
        have hke2 : a ≤ k := by omega
        clear hke hka
        have u1 : decide ((a : Int) < (k : Int)) = false := by simp; omega
        have u3 : ((k : Int) == (a : Int)) = true := eqU (by omega)
        by_cases hm0 : m = 0
        · have u4 : ((m : Int) == 0) = true := eqU (by omega)
          clear hm0
          have HM1 := Lib.hid (moved_low s x a m k HP1.out hlt (by omega))
          go_wp2_with fail
          refine (movedw s x a m k k _ (by omega) (by omega) HM1.out).mono ?_
          rintro e w5 ⟨rfl, hb5⟩
          have HB5 := Lib.hid (HB.out.trans (hb5.mono HB.out.size)); clear hb5
          go_wp2
          exact ⟨⟨k + 1, by omega, by go_num, HB5.out⟩, by simp [intOf]; omega⟩
        · have u4 : ((m : Int) == 0) = false := by simp; omega
          have hm1 : 0 < m := by omega
          clear hm0
          have HM1 := Lib.hid (moved_low s x a m k HP1.out hlt (by omega))
          have HM2 := Lib.hid (moved_low t (List.drop a (List.take z s)) a x.length k HP2.out (by omega) (by omega))
          go_wp2_with fail
          refine (movedw s x a m k k _ (by omega) (by omega) HM1.out).mono ?_
          rintro e w5 ⟨rfl, hb5⟩
          have HB5 := Lib.hid (HB.out.trans (hb5.mono HB.out.size)); clear hb5
          go_wp2_with fail
          clear u1 u3 u4
          refine (movedw t (List.drop a (List.take z s)) a x.length k k _ (by omega) (by omega) HM2.out).mono ?_
          rintro e w6 ⟨rfl, hb6⟩
          have HB6 := Lib.hid (HB5.out.trans (hb6.mono HB5.out.size)); clear hb6
          go_wp2_with fail
          have q1 : decide ((k : Int) < (s.length : Int)) = true := by simp; have := HZ.out; omega
          have q1n : decide (k < s.length) = true := by simp; have := HZ.out; omega
          have q2 : decide ((k : Int) < (a : Int)) = false := by simp; have := HZ.out; omega
          have q2n : decide (k < a) = false := by simp; have := HZ.out; omega
          have q3 : decide ((z : Int) ≤ (k : Int)) = false := by simp; have := HZ.out; omega
          have q3n : decide (z ≤ k) = false := by simp; have := HZ.out; omega
          have qz : IntKind.i64.wrap ((a : Int) + (m : Int)) = (z : Int) := by rw [IntWalk.i64_in _ ⟨by omega, by omega⟩]; have := HZ.out; omega
          clear hzi htm htI hmd2 ht1 ht2
          go_quiet (fail)
          clear qz
          go_wp2
          exact ⟨⟨k + 1, by omega, by go_num, bdrewN HB6.out _⟩, by simp [intOf]; omega⟩
      have u1 : decide ((a : Int) < (k : Int)) = true := by simp; omega
      have u3 : ((k : Int) == (a : Int)) = false := by simp; omega
      have hak : a < k := by omega
      clear hka hke
      by_cases hkz : k < z
      · have u2 : decide ((k : Int) < (z : Int)) = true := by simp; omega
        have HM1 := Lib.hid (moved_mid s x a m k HP1.out hlt (by omega) (by have := HZ.out; omega))
        go_wp2_with fail
        refine (movedw s x a m k (a + x.length : Nat) _ (by omega) (by omega) HM1.out).mono ?_
        rintro e w5 ⟨rfl, hb5⟩
        have HB5 := Lib.hid (HB.out.trans (hb5.mono HB.out.size)); clear hb5
        go_wp2
        exact ⟨⟨k + 1, by omega, by go_num, HB5.out⟩, by simp [intOf]; omega⟩
      have u2 : decide ((k : Int) < (z : Int)) = false := by simp; omega
      have hzk : z ≤ k := by omega
      clear hkz
      obtain ⟨q2, hq2⟩ : ∃ q2, q2 = k + x.length - m := ⟨_, rfl⟩
      have hqm : q2 + m = k + x.length := by have := HZ.out; omega
      have hqa : a ≤ q2 := by have := HZ.out; omega
      clear hq2
      have HMA := Lib.hid (moved_high s x a m k q2 HP1.out hlt (by omega) (by have := HZ.out; omega) hqm)
      by_cases hqe : q2 = a
      · subst hqe
        have hx0 : x.length = 0 := by have := HZ.out; omega
        have hkz2 : k = z := by have := HZ.out; omega
        have n1 : ((q2 : Int) != (k : Int)) = true := neU (by omega)
        have n2 : ((x.length : Int) == 0) = true := eqU (by omega)
        have n3 : ((k : Int) == (z : Int)) = true := eqU (by omega)
        have hx1 : x.length ≤ 0 := by omega
        have hkz3 : k ≤ z := by omega
        have HQM := Lib.hid hqm
        clear hx0 hkz2 hqm
        by_cases hkn : k < s.length
        · have HM1 := Lib.hid HMA.out
          have HM2 := Lib.hid (moved_low t (List.drop q2 (List.take z s)) q2 x.length q2 HP2.out (by have := HQM.out; omega) (by have := HQM.out; omega))
          have hne : (((gt t q2).toNat : Int) != ((gt s k).toNat : Int)) = false := by rw [HHI.out k q2 (by have := HQM.out; omega) (by have := HQM.out; omega)]; simp
          go_wp2_with fail
          refine (movedw s x q2 m k q2 _ (by have := HQM.out; omega) (by have := HQM.out; omega) HM1.out).mono ?_
          rintro e w5 ⟨rfl, hb5⟩
          have HB5 := Lib.hid (HB.out.trans (hb5.mono HB.out.size)); clear hb5
          go_wp2_with fail
          refine (movedw t (List.drop q2 (List.take z s)) q2 x.length q2 q2 _ (by have := HQM.out; omega) (by have := HQM.out; omega) HM2.out).mono ?_
          rintro e w6 ⟨rfl, hb6⟩
          have HB6 := Lib.hid (HB5.out.trans (hb6.mono HB5.out.size)); clear hb6
          go_wp2_with fail
          have q1 : decide ((k : Int) < (s.length : Int)) = true := by simp; have := HZ.out; omega
          have q1n : decide (k < s.length) = true := by simp; have := HZ.out; omega
          have q22 : decide ((k : Int) < (q2 : Int)) = false := by simp; have := HZ.out; omega
          have q22n : decide (k < q2) = false := by simp; have := HZ.out; omega
          have q3 : decide ((z : Int) ≤ (k : Int)) = true := by simp; have := HZ.out; omega
          have q3n : decide (z ≤ k) = true := by simp; have := HZ.out; omega
          have q4 : (k : Int) < (s.length : Int) := by have := HZ.out; omega
          have q5 : (q2 : Int) < (t.length : Int) := by have := HZ.out; omega
          have q6 : (0 : Int) ≤ (q2 : Int) := by have := HZ.out; omega
          have q7 : (0 : Int) ≤ (k : Int) := by have := HZ.out; omega
          have qz : IntKind.i64.wrap ((q2 : Int) + (m : Int)) = (z : Int) := by rw [IntWalk.i64_in _ ⟨by omega, by omega⟩]; have := HZ.out; omega
          clear hzi htm htI hmd2 ht1 ht2
          go_quiet (fail)
          clear qz
          go_wp2
          exact ⟨⟨k + 1, by omega, by go_num, bdrewN HB6.out _⟩, by simp [intOf]; omega⟩
        · have HM1 := Lib.hid HMA.out
          have HM2 := Lib.hid (moved_low t (List.drop q2 (List.take z s)) q2 x.length q2 HP2.out (by have := HQM.out; omega) (by have := HQM.out; omega))
          go_wp2_with fail
          refine (movedw s x q2 m k q2 _ (by have := HQM.out; omega) (by have := HQM.out; omega) HM1.out).mono ?_
          rintro e w5 ⟨rfl, hb5⟩
          have HB5 := Lib.hid (HB.out.trans (hb5.mono HB.out.size)); clear hb5
          go_wp2_with fail
          refine (movedw t (List.drop q2 (List.take z s)) q2 x.length q2 q2 _ (by have := HQM.out; omega) (by have := HQM.out; omega) HM2.out).mono ?_
          rintro e w6 ⟨rfl, hb6⟩
          have HB6 := Lib.hid (HB5.out.trans (hb6.mono HB5.out.size)); clear hb6
          go_wp2_with fail
          have q1 : decide ((k : Int) < (s.length : Int)) = false := by simp; have := HZ.out; omega
          have q1n : decide (k < s.length) = false := by simp; have := HZ.out; omega
          have qz : IntKind.i64.wrap ((q2 : Int) + (m : Int)) = (z : Int) := by rw [IntWalk.i64_in _ ⟨by omega, by omega⟩]; have := HZ.out; omega
          clear hzi htm htI hmd2 ht1 ht2
          go_quiet (fail)
          clear qz
          go_wp2
          exact ⟨⟨k + 1, by omega, by go_num, bdrewN HB6.out _⟩, by simp [intOf]; omega⟩
      · have HQM := Lib.hid hqm
        have hqa2 : a < q2 := by omega
        clear hqe
        by_cases hkn : k < s.length
        · have HM1 := Lib.hid HMA.out
          have HM2 := Lib.hid (moved_high t (List.drop a (List.take z s)) a x.length q2 k HP2.out (by have := HQM.out; omega) (by have := HQM.out; omega) (by have := HZ.out; omega) (by have := HQM.out; omega))
          have hne : (((gt t q2).toNat : Int) != ((gt s k).toNat : Int)) = false := by rw [HHI.out k q2 (by have := HQM.out; omega) (by have := HZ.out; omega)]; simp
          go_wp2_with fail
          refine (movedw s x a m k q2 _ (by have := HQM.out; omega) (by have := HQM.out; omega) HM1.out).mono ?_
          rintro e w5 ⟨rfl, hb5⟩
          have HB5 := Lib.hid (HB.out.trans (hb5.mono HB.out.size)); clear hb5
          go_wp2_with fail
          refine (movedw t (List.drop a (List.take z s)) a x.length q2 k _ (by have := HQM.out; omega) (by have := HQM.out; omega) HM2.out).mono ?_
          rintro e w6 ⟨rfl, hb6⟩
          have HB6 := Lib.hid (HB5.out.trans (hb6.mono HB5.out.size)); clear hb6
          go_wp2_with fail
          have q1 : decide ((k : Int) < (s.length : Int)) = true := by simp; have := HZ.out; omega
          have q1n : decide (k < s.length) = true := by simp; have := HZ.out; omega
          have q22 : decide ((k : Int) < (a : Int)) = false := by simp; have := HZ.out; omega
          have q22n : decide (k < a) = false := by simp; have := HZ.out; omega
          have q3 : decide ((z : Int) ≤ (k : Int)) = true := by simp; have := HZ.out; omega
          have q3n : decide (z ≤ k) = true := by simp; have := HZ.out; omega
          have q4 : (k : Int) < (s.length : Int) := by have := HZ.out; omega
          have q5 : (q2 : Int) < (t.length : Int) := by have := HZ.out; omega
          have q6 : (0 : Int) ≤ (q2 : Int) := by have := HZ.out; omega
          have q7 : (0 : Int) ≤ (k : Int) := by have := HZ.out; omega
          have qz : IntKind.i64.wrap ((a : Int) + (m : Int)) = (z : Int) := by rw [IntWalk.i64_in _ ⟨by omega, by omega⟩]; have := HZ.out; omega
          clear hzi htm htI hmd2 ht1 ht2
          go_quiet (fail)
          clear qz
          go_wp2
          exact ⟨⟨k + 1, by omega, by go_num, bdrewN HB6.out _⟩, by simp [intOf]; omega⟩
        · have HM1 := Lib.hid HMA.out
          have HM2 := Lib.hid (moved_high t (List.drop a (List.take z s)) a x.length q2 k HP2.out (by have := HQM.out; omega) (by have := HQM.out; omega) (by have := HZ.out; omega) (by have := HQM.out; omega))
          go_wp2_with fail
          refine (movedw s x a m k q2 _ (by have := HQM.out; omega) (by have := HQM.out; omega) HM1.out).mono ?_
          rintro e w5 ⟨rfl, hb5⟩
          have HB5 := Lib.hid (HB.out.trans (hb5.mono HB.out.size)); clear hb5
          go_wp2_with fail
          refine (movedw t (List.drop a (List.take z s)) a x.length q2 k _ (by have := HQM.out; omega) (by have := HQM.out; omega) HM2.out).mono ?_
          rintro e w6 ⟨rfl, hb6⟩
          have HB6 := Lib.hid (HB5.out.trans (hb6.mono HB5.out.size)); clear hb6
          go_wp2_with fail
          have q1 : decide ((k : Int) < (s.length : Int)) = false := by simp; have := HZ.out; omega
          have q1n : decide (k < s.length) = false := by simp; have := HZ.out; omega
          have qz : IntKind.i64.wrap ((a : Int) + (m : Int)) = (z : Int) := by rw [IntWalk.i64_in _ ⟨by omega, by omega⟩]; have := HZ.out; omega
          clear hzi htm htI hmd2 ht1 ht2
          go_quiet (fail)
          clear qz
          go_wp2
          exact ⟨⟨k + 1, by omega, by go_num, bdrewN HB6.out _⟩, by simp [intOf]; omega⟩
    · go_wp2_with fail
      refine (known_any _ (HE.out.below HB.out)).mono ?_
      rintro e wz ⟨rfl, hbz⟩
      have HBZ := Lib.hid (HB.out.trans (hbz.mono HB.out.size)); clear hbz
      go_wp2_with fail
      go_ret
      exact ⟨rfl, HBZ.out⟩
end Go.Proofs.Ytfdcimkdhioepaa
