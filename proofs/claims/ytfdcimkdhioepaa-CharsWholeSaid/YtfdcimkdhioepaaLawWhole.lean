/-
  THE LAW CharsWhole, walked: for any bytes and any number it answers true and leaves the old memory as it was.
-/
import Derived.Deep.QuietTactic
import Derived.BigQuiet
import Derived.IntWalk
import Derived.Test.YtfdcimkdhioepaaCZ
import Derived.Test.YtfdcimkdhioepaaCX
import Derived.Test.YtfdcimkdhioepaaCPlain9
namespace Go.Proofs.Ytfdcimkdhioepaa
open Go.RowKit Go.Shelf Mist
attribute [local go_sem] ofL_extract ofL_size ofL_get ofL_bytes ofL_append
theorem linew (s x : Bs) (k : Int) (er : Nat) (w : World) (hl : s.length ≤ 100000000) (h : lineOf s k = (x, er)) : Calls Try.prog 35 #[.string (ofL s), .int .i64 k] w fun e w' => e = .returned (.tuple #[.string (ofL x), .int .i64 er]) ∧ Below w.heap.size w w' := by
  refine (lineT_any s k w hl).mono ?_; rintro e w' ⟨rfl, hb⟩; rw [h]; exact ⟨rfl, hb⟩
theorem parts_len (s : Bs) : ∀ p ∈ partsOf s (linesOf s), p.length ≤ s.length := by
  intro p hp
  obtain ⟨q, _, rfl⟩ := List.mem_map.1 hp
  show (cutOf s q).length ≤ s.length
  unfold cutOf; simp; omega
theorem wid_take (s : Bs) (m : Nat) (h : m < (linesOf s).length) : wid ((linesOf s).take (m + 1)) = max (wid ((linesOf s).take m)) (sg (partsOf s (linesOf s)) m).length := by
  obtain ⟨p, hp⟩ : ∃ p, (linesOf s)[m]? = some p := ⟨_, List.getElem?_eq_getElem h⟩
  have hp2 : (linesOf s)[m] = p := (List.getElem?_eq_some_iff.1 hp).2
  rw [List.take_succ_eq_append_getElem h, wid_snoc, sg_parts s _ m p hp, cutOf_len s p (linesOf_mem s p (List.mem_of_getElem? hp)), hp2]
theorem join_take (P : List Bs) (m : Nat) (h : m < P.length) (h0 : 0 < m) : joinF (P.take (m + 1)) = joinF (P.take m) ++ [10] ++ sg P m := by
  rw [List.take_succ_eq_append_getElem h, joinF_snoc _ _ (by intro e; have := congrArg List.length e; rw [List.length_take, List.length_nil] at this; omega), sg_eq P m h]
theorem join_first (P : List Bs) (h : 0 < P.length) : joinF (P.take (0 + 1)) = sg P 0 := by
  rw [List.take_succ_eq_append_getElem h, sg_eq P 0 h]; rfl
set_option maxRecDepth 100000 in
set_option maxHeartbeats 16000000 in
theorem whole_law (v0 : Value) (l0 : Bs) (p : Nat) (w : World) (hE : CEnv w) (hv0 : U8s w v0 l0) (hl0 : l0.length ≤ 4611686018427387904) (hp : p < 65536) :
    Calls Try.prog 13 #[v0, .int .u16 p] w fun e w' => e = .returned (.bool true) ∧ Below w.heap.size w w' := by
  have HE := Lib.hid hE; clear hE
  have hsl := validBy_len l0 300
  have hck : (check (validBy l0 300)).2 = 0 := by rw [validBy_check l0 300 (by omega)]
  have HV0 := Lib.hid (valid_by l0 300 v0 w hv0 (by omega) hl0); clear hv0
  obtain ⟨s, hs⟩ : ∃ s, s = validBy l0 300 := ⟨_, rfl⟩
  rw [← hs] at hsl hck
  have HS := Lib.hid hs; clear hs
  obtain ⟨k, hk⟩ : ∃ k, k = p % (s.length + 1) := ⟨_, rfl⟩
  have hkl : k ≤ s.length := by have := Nat.mod_lt p (show 0 < s.length + 1 by omega); omega
  have ht1 : Int.tmod (p : Int) ((s.length : Int) + 1) = (k : Int) := by rw [Int.tmod_eq_emod_of_nonneg (by omega), hk, Int.natCast_emod]; rfl
  clear hk
  have HLN := Lib.hid (linesN_ok s hck)
  have HWI := Lib.hid (widestOf_ok s hck)
  have hll := linesOf_len s
  have hlp := linesOf_pos s
  have hpl := partsOf_len s (linesOf s)
  have HHIT := Lib.hid (fun m => lineOf_hit s m hck)
  have HNONE := Lib.hid (lineOf_none s (((linesOf s).length : Int) + 1) hck (by omega))
  have HWT := Lib.hid (wid_take s)
  have HPM := Lib.hid (parts_len s)
  have HJA := Lib.hid (join_lines_all s)
  have hwid : wid (linesOf s) ≤ s.length := by
    have := wid_le (s := s) ((linesOf s).attach.map fun p => ⟨p.1, linesOf_mem s p.1 p.2⟩)
    simp only [List.map_map, Function.comp_def] at this
    rwa [show (linesOf s).attach.map (fun x => x.val) = linesOf s from List.attach_map_subtype_val _] at this
  have hoff : offErr s (k : Int) = 0 := by unfold offErr; rw [if_neg (by simpa using hck), if_pos (by omega)]
  have hA := aroundOf_around s k hkl
  have hSh := showOf_ok s k hoff
  obtain ⟨⟨⟨x, y⟩, q⟩, hr⟩ : ∃ r, r = aroundOf s k := ⟨_, rfl⟩
  rw [← hr] at hA hSh
  obtain ⟨_, h4, h5, h6⟩ := hA
  simp only at h5 h6 hSh
  have hmem := List.mem_of_getElem? h4
  obtain ⟨hin1, hin2⟩ := lines_inner s _ hmem
  have hcl := cutOf_len s (x, y) (linesOf_mem s _ hmem)
  have hyl := (linesOf_mem s _ hmem).2
  have HGC := Lib.hid (gt_cutOf s (x, y))
  simp only at hin1 hin2 hcl hyl
  clear h4 hmem hr hoff
  obtain ⟨d, hd⟩ : ∃ d, d = k - x := ⟨_, rfl⟩
  rw [show ((k : Int) - (x : Int)).toNat = d by omega] at hSh
  obtain ⟨C, hCC⟩ : ∃ C, C = cutOf s (x, y) := ⟨_, rfl⟩
  rw [← hCC] at HGC hSh hcl
  clear hCC
  have HF := Lib.hid (fun j (hj : j < C.length) => show gt C j ≠ 10 by rw [HGC.out j (by simp only; omega)]; exact hin1 _ (by simp only; omega) (by simp only; omega))
  have HK := Lib.hid (show k < s.length → gt s k ≠ 10 → d < C.length ∧ gt C d = gt s k by
    intro ha hb
    have hlt : k < y := by
      rcases Nat.lt_or_ge k y with h | h
      · exact h
      · exfalso
        obtain rfl : k = y := by omega
        exact hb (hin2 ha)
    refine ⟨by omega, ?_⟩
    rw [HGC.out d (by simp only; omega)]
    simp only; congr 1; omega)
  have hdC : d ≤ C.length := by omega
  have hCl : C.length ≤ 300 := by omega
  clear hin1 hin2 HGC h5 h6 hcl hyl hd
  obtain ⟨X, hX⟩ : ∃ X, X = C ++ [10] ++ List.replicate d 32 ++ [94] := ⟨_, rfl⟩
  rw [← hX] at hSh
  have hXl : X.length = C.length + d + 2 := by rw [hX]; simp; omega
  have HX1 := Lib.hid (fun j (hj : j < C.length) => show gt X j = gt C j by rw [hX, List.append_assoc, List.append_assoc, gt_left _ _ _ hj])
  have HX2 := Lib.hid (show gt X C.length = 10 by rw [hX, List.append_assoc, List.append_assoc, gt_right _ _ _ (Nat.le_refl _), Nat.sub_self]; rfl)
  have HX3 := Lib.hid (show gt X (C.length + d + 1) = 94 by
    have e : C.length + d + 1 - (C ++ [10] ++ List.replicate d 32).length = 0 := by simp; omega
    rw [hX, gt_right _ _ _ (by simp; omega), e]; rfl)
  clear hX
  have HSH := Lib.hid hSh; clear hSh
  obtain ⟨P, hP⟩ : ∃ P, P = partsOf s (linesOf s) := ⟨_, rfl⟩
  rw [show (linesOf s).map (cutOf s) = partsOf s (linesOf s) from rfl, ← hP] at HJA
  rw [← hP] at hpl HHIT HWT HPM
  obtain ⟨T, hT⟩ : ∃ T, T = linesOf s := ⟨_, rfl⟩
  rw [← hT] at hpl hll hlp HLN HWI HHIT HNONE HWT hwid
  clear hP hT
  obtain ⟨N, hN⟩ : ∃ N, N = T.length := ⟨_, rfl⟩
  rw [← hN] at hpl hll hlp HLN HHIT HNONE HWT
  have HTN := Lib.hid (show T.take N = T by rw [hN, List.take_length])
  have HPN := Lib.hid (show P.take N = P by rw [← hpl, List.take_length])
  have HJT := Lib.hid (join_take P)
  have HJ0 := Lib.hid (join_first P)
  clear hN hck
  obtain ⟨Wd, hW⟩ : ∃ Wd, Wd = wid T := ⟨_, rfl⟩
  rw [← hW] at HWI hwid
  have HW := Lib.hid hW; clear hW
  go_enter Try.func13, Try.ntmps13
  go_wp2_with fail
  refine HV0.out.mono ?_
  rintro e w1 ⟨rfl, hb1⟩
  rw [← HS.out]
  have HB1 := Lib.hid hb1; clear hb1 HV0
  go_wp2_with fail
  refine (linesw s N _ (by omega) HLN.out).mono ?_
  rintro e w2 ⟨rfl, hb2⟩
  have HB2 := Lib.hid (HB1.out.trans (hb2.mono HB1.out.size)); clear hb2
  go_wp2_with fail
  refine (widestw s Wd _ (by omega) HWI.out).mono ?_
  rintro e w3 ⟨rfl, hb3⟩
  have HB3 := Lib.hid (HB2.out.trans (hb3.mono HB2.out.size)); clear hb3
  go_wp2
  go_loopw [10, 11, 12] (fun a b i wr => ∃ (m u : Nat) (Z : Bs), m ≤ N ∧ i = .int .i64 ((m : Int) + 1) ∧ a = .string (ofL Z) ∧ Z.length ≤ m * 301 ∧ Hid (Z = joinF (P.take m)) ∧ b = .int .i64 u ∧ u ≤ 300 ∧ Hid (u = wid (T.take m)) ∧ Below w.heap.size w wr) (fun _ _ i _ => N + 1 - (intOf i).toNat)
  case atStart => exact ⟨0, 0, [], Nat.zero_le _, rfl, rfl, by simp, Lib.hid rfl, rfl, Nat.zero_le _, Lib.hid rfl, HB3.out⟩
  case round =>
    obtain ⟨m, u, Z, hm, rfl, rfl, hZ, HZ, rfl, hu, HU, hb⟩ := hrel
    have HB := Lib.hid hb; clear hb
    by_cases hlt : m < N
    · have HLI := Lib.hid (HHIT.out m hlt)
      have HWN := Lib.hid (HWT.out m hlt)
      have hgl : (sg P m).length ≤ 300 := by
        have := HPM.out (sg P m) (by rw [sg_eq P m (by omega)]; exact List.getElem_mem _)
        omega
      have HJ1 := Lib.hid (fun h => HJT.out m (by omega) h)
      have HJ2 := Lib.hid (fun (h : m = 0) => show joinF (P.take (m + 1)) = sg P m by subst h; exact HJ0.out (by omega))
      obtain ⟨G, hG⟩ : ∃ G, G = sg P m := ⟨_, rfl⟩
      rw [← hG] at HLI HWN hgl HJ1 HJ2
      clear hG
      go_wp2_with fail
      refine (linew s G _ 0 _ (by omega) HLI.out).mono ?_
      rintro e w4 ⟨rfl, hb4⟩
      have HB4 := Lib.hid (HB.out.trans (hb4.mono HB.out.size)); clear hb4
      rcases Nat.eq_zero_or_pos m with h0 | h0
      · subst h0
        have HZ2 := Lib.hid (show Z = [] from HZ.out)
        have HJ3 := Lib.hid (HJ2.out rfl)
        rw [HZ2.out]
        go_wp2
        refine ⟨⟨0 + 1, max u G.length, G, by omega, by go_num, ?_, by omega, Lib.hid HJ3.out.symm, ?_, by omega, Lib.hid (by rw [HWN.out, ← HU.out]), HB4.out⟩, by simp [intOf]; omega⟩
        · rfl
        · congr 1; omega
      · have HJ3 := Lib.hid (HJ1.out h0)
        go_wp2
        refine ⟨⟨m + 1, max u G.length, Z ++ [10] ++ G, by omega, by go_num, ?_, by simp; omega, Lib.hid (by rw [HJ3.out, HZ.out]), ?_, by omega, Lib.hid (by rw [HWN.out, ← HU.out]), HB4.out⟩, by simp [intOf]; omega⟩
        · rw [← ofL_append, ← ofL_append]; rfl
        · congr 1; omega
    obtain rfl : m = N := by omega
    obtain rfl : Z = s := by rw [HZ.out, HPN.out]; exact HJA.out
    obtain rfl : u = Wd := by rw [HU.out, HTN.out]; exact HW.out.symm
    clear HZ HU
    go_wp2_with fail
    refine (linew Z [] _ 3 _ (by omega) HNONE.out).mono ?_
    rintro e w5 ⟨rfl, hb5⟩
    have HB5 := Lib.hid (HB.out.trans (hb5.mono HB.out.size)); clear hb5
    go_wp2_with fail
    refine (showw Z k X _ (by omega) HSH.out).mono ?_
    rintro e w6 ⟨rfl, hb6⟩
    have HB6 := Lib.hid (HB5.out.trans (hb6.mono HB5.out.size)); clear hb6
    clear ht1 hll hlp hpl
    go_wp2
    go_loopw [20] (fun i wr => ∃ n : Nat, n ≤ C.length ∧ i = .int .i64 n ∧ wr = w6) (fun i _ => C.length - (intOf i).toNat)
    case atStart => exact ⟨0, Nat.zero_le _, rfl, rfl⟩
    case round =>
      obtain ⟨n, hn, rfl, rfl⟩ := hrel
      by_cases hlt : n < C.length
      · have g1 : (((gt X n).toNat : Int) != 10) = true := by rw [HX1.out n hlt]; exact neI' (byte_neN (k := 10) (HF.out n hlt) (by omega))
        go_wp2
        exact ⟨⟨n + 1, by omega, by go_num, by first | rfl | trivial⟩, by simp [intOf]; omega⟩
      obtain rfl : n = C.length := by omega
      have g1 : (((gt X C.length).toNat : Int) != 10) = false := by rw [HX2.out]; rfl
      have g2 : (((gt X (C.length + d + 1)).toNat : Int) != 94) = false := by rw [HX3.out]; rfl
      have e1 : (C.length : Int) + (d : Int) + 2 - (C.length : Int) - 2 = (d : Int) := by omega
      have q1 : decide ((d : Int) < 0) = false := decide_eq_false (by omega)
      have q2 : decide ((C.length : Int) < (d : Int)) = false := by simp; omega
      have HE1 := Lib.hid e1; clear e1
      have q1n : decide (C.length < d) = false := decide_eq_false (by omega)
      by_cases hks : k < Z.length
      · have q3 : decide ((k : Int) < (Z.length : Int)) = true := by simp; omega
        have q4 : (k : Int) < (Z.length : Int) := by omega
        have q5 : (0 : Int) ≤ (k : Int) := by omega
        by_cases h10 : gt Z k = 10
        · have g3 : (((gt Z k).toNat : Int) != 10) = false := by rw [h10]; rfl
          clear h10
          go_wp2_with fail
          rw [HE1.out]
          go_quiet (fail)
          go_wp2_with fail
          refine (known_any _ (HE.out.below (bdrewN HB6.out _))).mono ?_
          rintro e wz ⟨rfl, hbz⟩
          have HBZ := Lib.hid ((bdrewN HB6.out _).trans (hbz.mono (bdrewN HB6.out _).size)); clear hbz
          go_wp2_with fail
          go_ret
          exact ⟨rfl, HBZ.out⟩
        · have g3 : (((gt Z k).toNat : Int) != 10) = true := neI' (byte_neN (k := 10) h10 (by omega))
          obtain ⟨hdl, hge⟩ := HK.out hks h10
          have g4 : (((gt X d).toNat : Int) != ((gt Z k).toNat : Int)) = false := by rw [HX1.out d hdl, hge]; simp
          have q6 : decide ((C.length : Int) ≤ (d : Int)) = false := by simp; omega
          have q6n : decide (C.length ≤ d) = false := decide_eq_false (by omega)
          have q7 : (d : Int) < (X.length : Int) := by omega
          have q8 : (0 : Int) ≤ (d : Int) := by omega
          clear h10 hge
          go_wp2_with fail
          rw [HE1.out]
          go_quiet (fail)
          go_wp2_with fail
          refine (known_any _ (HE.out.below (bdrewN HB6.out _))).mono ?_
          rintro e wz ⟨rfl, hbz⟩
          have HBZ := Lib.hid ((bdrewN HB6.out _).trans (hbz.mono (bdrewN HB6.out _).size)); clear hbz
          go_wp2_with fail
          go_ret
          exact ⟨rfl, HBZ.out⟩
      · have q3 : decide ((k : Int) < (Z.length : Int)) = false := by simp; omega
        have q3n : decide (k < Z.length) = false := decide_eq_false (by omega)
        go_wp2_with fail
        rw [HE1.out]
        go_quiet (fail)
        go_wp2_with fail
        refine (known_any _ (HE.out.below (bdrewN HB6.out _))).mono ?_
        rintro e wz ⟨rfl, hbz⟩
        have HBZ := Lib.hid ((bdrewN HB6.out _).trans (hbz.mono (bdrewN HB6.out _).size)); clear hbz
        go_wp2_with fail
        go_ret
        exact ⟨rfl, HBZ.out⟩
end Go.Proofs.Ytfdcimkdhioepaa
