/-
  THE LAW TokenShortest, walked: for any pairs of bytes it answers true and leaves the old memory as it was.
-/
import Derived.Test.YtkckmnipidpdeaaDoorWalkM6
namespace Go.Proofs.YtkckmnipidpdeaaDoor
open Go.RowKit Mist
attribute [local go_sem] ofL_extract ofL_size ofL_get ofL_bytes ofL_append
set_option maxRecDepth 100000 in
set_option maxHeartbeats 4000000 in
theorem shortest_law (v : Value) (bs : List (Nat × Nat)) (w : World) (hE : Env w) (hv : Pairs w v bs) (hby : ∀ p ∈ bs, p.1 < 256 ∧ p.2 < 256) (hl : bs.length ≤ 4611686018427387904) :
    Calls Tryd.prog 7 #[v] w fun e w' => e = .returned (.bool true) ∧ Below w.heap.size w w' := by
  have HE := Lib.hid hE; clear hE
  go_enter Tryd.func7, Tryd.ntmps7
  go_wp2_with fail
  refine (made_any v bs 30 _ hv (by omega) hby hl).mono ?_
  rintro e w1 ⟨v1, rfl, ht1, hb1⟩
  have h60 : (bs.take 30).length ≤ 30 := by rw [List.length_take]; omega
  obtain ⟨B, hB⟩ : ∃ B, B = bs.take 30 := ⟨_, rfl⟩
  rw [← hB] at ht1 h60 ⊢
  clear hB hv hby hl
  have hsl := madeText_len B
  have hxl := madeShort_len B
  have hll := madeToks_len B
  have hck := made_check B (by omega)
  have hte := made_short B (by omega)
  have hcut := shortest_made B
  have hpc := made_pieces B
  obtain ⟨S, hS⟩ : ∃ S, S = madeText B := ⟨_, rfl⟩
  obtain ⟨X, hX⟩ : ∃ X, X = madeShort B := ⟨_, rfl⟩
  obtain ⟨L, hL⟩ : ∃ L, L = madeToks B := ⟨_, rfl⟩
  rw [← hS] at hsl hxl ⊢
  rw [← hX] at hxl hte hcut
  rw [← hL] at ht1 hll hck hte hcut hpc
  clear hS hX hL
  have hX2 : X.length ≤ 1200 := by omega
  have hXS : X.length ≤ S.length := by omega
  have hL2 : L.length ≤ 60 := by omega
  clear hsl hxl hll h60
  have HCK := Lib.hid hck; clear hck
  have HTE := Lib.hid hte; clear hte
  have HCUT := Lib.hid hcut; clear hcut
  have HPC := Lib.hid hpc; clear hpc
  have HT1 := Lib.hid ht1; clear ht1
  have HE1 := Lib.hid (HE.out.below hb1)
  have HB1 := Lib.hid hb1; clear hb1
  go_wp2_with fail
  refine (ownw v1 L _ HT1.out HCK.out).mono ?_
  rintro e w2 ⟨v2, rfl, ht2, hb2⟩
  have HO2 := Lib.hid ht2; clear ht2
  have HT2 := Lib.hid (HT1.out.below hb2)
  have HE2 := Lib.hid (HE1.out.below hb2)
  have HB2 := Lib.hid (HB1.out.trans (hb2.mono HB1.out.size)); clear hb2
  go_wp2_with fail
  refine (textw v2 L X _ HE2.out HO2.out HCK.out HTE.out).mono ?_
  rintro e w3 ⟨rfl, hb3⟩
  have HT3 := Lib.hid (HT2.out.below hb3)
  have HE3 := Lib.hid (HE2.out.below hb3)
  have HB3 := Lib.hid (HB2.out.trans (hb3.mono HB2.out.size)); clear hb3
  clear HO2
  have hdec : decide (S.length < X.length) = false := by rw [decide_eq_false_iff_not]; omega
  have hdec2 : decide ((S.length : Int) < (X.length : Int)) = false := by rw [decide_eq_false_iff_not]; omega
  obtain ⟨A1, c1, rfl⟩ : ∃ A c, v1 = .slice A L.length c := by obtain ⟨A, c, h, _⟩ := HT3.out; exact ⟨A, c, h⟩
  go_wp2
  go_loopw [7] (fun i wr => ∃ n : Nat, n ≤ X.length ∧ i = .int .i64 n ∧ Below w3.heap.size w3 wr) (fun i _ => X.length - (intOf i).toNat)
  case atStart => exact ⟨0, Nat.zero_le _, rfl, Below.refl _ _⟩
  case round =>
    obtain ⟨n, hn, rfl, hbq⟩ := hrel
    have hz := hbq.size
    have HBQ := Lib.hid hbq; clear hbq
    by_cases hlt : n < X.length
    · by_cases h32 : gt X n = 32
      · have b32 : (((gt X n).toNat : Int) != 32) = false := by rw [h32]; rfl
        have hc := HCUT.out n hlt h32
        have HCC := Lib.hid hc; clear hc h32
        obtain ⟨N1, hN1⟩ : ∃ N1, n + 1 = N1 := ⟨_, rfl⟩
        rw [hN1] at HCC
        obtain ⟨T, hT⟩ : ∃ T, T = X.take n ++ X.drop N1 := ⟨_, rfl⟩
        have hTl : T.length ≤ 1200 := by rw [hT, List.length_append, List.length_take, List.length_drop]; omega
        rw [← hT] at HCC
        have HTX := Lib.hid hT; clear hT
        have hN3 : N1 ≤ X.length := by omega
        have hw1 : IntKind.i64.wrap ((n : Int) + 1) = (N1 : Int) := by rw [IntWalk.i64_in _ (by omega)]; omega
        have HN1 := Lib.hid hN1; clear hN1
        have hb1 : (0 : Int) ≤ (n : Int) := by omega
        have hb2 : (n : Int) ≤ (X.length : Int) := by omega
        have hb3 : (0 : Int) ≤ (N1 : Int) := by omega
        have hb4 : (N1 : Int) ≤ (X.length : Int) := by omega
        have hb5 : n ≤ X.length := by omega
        have hcA : ¬ 9223372036854775807 < (List.take n X).length + (List.drop N1 X).length := by rw [List.length_take, List.length_drop]; omega
        have hcB : ¬ 9223372036854775807 < min n X.length + (X.length - N1) := by omega
        have hcC : ¬ 9223372036854775807 < n + (X.length - N1) := by omega
        by_cases her : (Mist.read T).2.2 = 0
        · have her' : (((Mist.read T).2.2 : Int) == 0) = true := by simp [her]
          have HAL := Lib.hid (HCC.out her); clear her
          have hr8 := read_short T
          go_wp2
          go_region_held3 (fun _ => True) (first | go_keep | trivial)
            ((go_at_call 15; rw [← HTX.out]; refine (read_any T _ (HE3.out.below (HBQ.out.trans ((bdrewN (Below.refl _ _) _).mono HBQ.out.size))) (by omega)).mono ?_; rintro e w4 ⟨v4, rfl, ht4, hb4⟩))
          have hbx : Below w3.heap.size w3 w4 := HBQ.out.trans (((Below.refl _ _).drew.trans hb4).mono HBQ.out.size)
          have HM := Lib.hid ht4; clear ht4
          have HX4 := Lib.hid hbx; clear hbx hb4
          go_wp2_with fail
          refine (alikew _ v4 L (Mist.read T).1 false _ (HT3.out.below HX4.out) HM.out (by omega) (by omega) HAL.out).mono ?_
          rintro e w5 ⟨rfl, hb5⟩
          have HX5 := Lib.hid (HX4.out.trans (hb5.mono HX4.out.size)); clear hb5
          go_wp2
          exact ⟨⟨N1, hN3, rfl, HX5.out⟩, by have := HN1.out; simp [intOf]; omega⟩
        · have her' : (((Mist.read T).2.2 : Int) == 0) = false := by simpa using her
          clear her
          go_wp2
          go_region_held3 (fun _ => True) (first | go_keep | trivial)
            ((go_at_call 15; rw [← HTX.out]; refine (read_any T _ (HE3.out.below (HBQ.out.trans ((bdrewN (Below.refl _ _) _).mono HBQ.out.size))) (by omega)).mono ?_; rintro e w4 ⟨v4, rfl, ht4, hb4⟩))
          have hbx : Below w3.heap.size w3 w4 := HBQ.out.trans (((Below.refl _ _).drew.trans hb4).mono HBQ.out.size)
          have HX4 := Lib.hid hbx; clear hbx hb4
          go_wp2
          exact ⟨⟨N1, hN3, rfl, HX4.out⟩, by have := HN1.out; simp [intOf]; omega⟩
      · have b32 : (((gt X n).toNat : Int) != 32) = true := by
          rw [bne_iff_ne]; intro e
          exact h32 (UInt8.toNat_inj.1 (by have : (gt X n).toNat = 32 := by omega
                                           rw [this]; rfl))
        clear h32
        go_wp2
        exact ⟨⟨n + 1, by omega, by go_num, HBQ.out⟩, by simp [intOf]; omega⟩
    · go_wp2
      go_loopw [11] (fun i wx => ∃ n : Nat, 1 ≤ n ∧ n ≤ L.length + 1 ∧ i = .int .i64 n ∧ Below w3.heap.size w3 wx) (fun i _ => L.length + 1 - (intOf i).toNat)
      case atStart => exact ⟨1, Nat.le_refl _, by omega, rfl, HBQ.out⟩
      case round =>
        obtain ⟨n, hn1, hn, rfl, hbq⟩ := hrel
        have hz2 := hbq.size
        have HBX := Lib.hid hbq; clear hbq
        by_cases hlt2 : n < L.length
        · obtain ⟨bb, o, rfl, hr⟩ := HT3.out.rowA (by omega)
          obtain ⟨q, hq⟩ : ∃ q, n = q + 1 := ⟨n - 1, by omega⟩
          have hqL : q < L.length := by omega
          obtain ⟨p1, hp1, hp2⟩ := HPC.out q hqL
          obtain ⟨p2, hp3, hp4⟩ := HPC.out n hlt2
          have hr2 := hr.below HBX.out
          have ht1 := hr2.text q hqL
          have ht2 := hr2.text n hlt2
          have hbl := hr2.lt
          rw [hp2] at ht1
          rw [hp4] at ht2
          have HR := Lib.hid hr; clear hr hr2
          have hw2 : IntKind.i64.wrap ((n : Int) - 1) = (q : Int) := by rw [IntWalk.i64_in _ (by omega)]; omega
          have hb1 : (0 : Int) ≤ (n : Int) := by omega
          have hb2 : (n : Int) < (L.length : Int) := by omega
          have hb3 : (0 : Int) ≤ (q : Int) := by omega
          have hb4 : (q : Int) < (L.length : Int) := by omega
          have hb5 : (0 : Int) < (n : Int) := by omega
          have HQ := Lib.hid hq; clear hq
          have hl1 := (pieces_valid p1 hp1).1
          have hl2 := (pieces_valid p2 hp3).1
          have HGL := Lib.hid (piece_glued p1 p2 hp1 hp3)
          have hcs := pair_cases p1 hp1 p2 hp3
          have HCS := Lib.hid hcs; clear hcs
          clear hp2 hp4
          obtain ⟨P1, hP1⟩ : ∃ P, P = p1.text := ⟨_, rfl⟩
          obtain ⟨P2, hP2⟩ : ∃ P, P = p2.text := ⟨_, rfl⟩
          rw [← hP1] at ht1 hl1 HGL HCS
          rw [← hP2] at ht2 hl2 HGL HCS
          clear hP1 hP2 hp1 hp3
          have hcs := HCS.out
          clear HCS
          rcases hcs with ⟨hgl, her, hlen, ht0, ht1'⟩ | ⟨hgl, her⟩ | ⟨hgl, her, hlen⟩ | ⟨hgl, her, hlen, ht0⟩
          · have HRX := Lib.hid (HR.out.below HBX.out)
            rw [hgl] at HGL
            go_wp2
            go_region_held3 (fun w' => w'.cell? ⟨bb, o + q * 3 + 1, none⟩ = some (.string (ofL P1)) ∧ w'.cell? ⟨bb, o + n * 3 + 1, none⟩ = some (.string (ofL P2)))
              (first | go_keep | exact ⟨(hba.cell (p := ⟨bb, _, none⟩) hbl).trans ht1, (hba.cell (p := ⟨bb, _, none⟩) hbl).trans ht2⟩)
              ((go_at_call 18; refine (gluew P1 P2 _ (HE3.out.below (HBX.out.trans ((bdrewN (Below.refl _ _) _).mono HBX.out.size))) (by omega) _ HGL.out).mono ?_; rintro e wa ⟨rfl, hba⟩))
            have hxa : Below w3.heap.size w3 wa := HBX.out.trans (((Below.refl _ _).drew.trans hba).mono HBX.out.size)
            have HXA := Lib.hid hxa; clear hxa
            have hza := hba.size
            have hta : wa.cell? ⟨bb, o + q * 3 + 1, none⟩ = some (.string (ofL P1)) := (hba.cell (p := ⟨bb, _, none⟩) hbl).trans ht1
            have htb : wa.cell? ⟨bb, o + n * 3 + 1, none⟩ = some (.string (ofL P2)) := (hba.cell (p := ⟨bb, _, none⟩) hbl).trans ht2
            have hbla : bb < wa.heap.size := Nat.lt_of_lt_of_le hbl hza
            have HBA := Lib.hid hba; clear hba
            have hcat : ¬ 9223372036854775807 < P1.length + P2.length := by omega
            go_wp2
            go_region_held3 (fun w' => w'.cell? ⟨bb, o + q * 3 + 1, none⟩ = some (.string (ofL P1)) ∧ w'.cell? ⟨bb, o + n * 3 + 1, none⟩ = some (.string (ofL P2)))
              (first | go_keep | exact ⟨(hbb.cell (p := ⟨bb, _, none⟩) hbla).trans hta, (hbb.cell (p := ⟨bb, _, none⟩) hbla).trans htb⟩)
              ((go_at_call 15; refine (read_any (P1 ++ P2) _ (HE3.out.below (HXA.out.trans ((bdrewN (Below.refl _ _) _).mono HXA.out.size))) (by rw [List.length_append]; omega)).mono ?_; rintro e wb ⟨v5, rfl, ht5, hbb⟩))
            have hxb : Below w3.heap.size w3 wb := HXA.out.trans (((Below.refl _ _).drew.trans hbb).mono HXA.out.size)
            have HXB := Lib.hid hxb; clear hxb
            have hzb := hbb.size
            have htc : wb.cell? ⟨bb, o + q * 3 + 1, none⟩ = some (.string (ofL P1)) := (hbb.cell (p := ⟨bb, _, none⟩) hbla).trans hta
            have htd : wb.cell? ⟨bb, o + n * 3 + 1, none⟩ = some (.string (ofL P2)) := (hbb.cell (p := ⟨bb, _, none⟩) hbla).trans htb
            have hblb : bb < wb.heap.size := Nat.lt_of_lt_of_le hbla hzb
            have HBB := Lib.hid hbb; clear hbb ht1 ht2 hta htb
            obtain ⟨M, hM⟩ : ∃ M, M = Mist.read (P1 ++ P2) := ⟨_, rfl⟩
            rw [← hM] at ht5 her hlen ht0 ht1' ⊢
            clear hM
            have her' : ((M.2.2 : Int) == 0) = true := by simp [her]
            have HER := Lib.hid her; clear her
            obtain ⟨b5, o5, c5, rfl, _, hr5⟩ := ht5.row (by omega)
            have hk0 := hr5.text 0 (by omega)
            have hk1 := hr5.text 1 (by omega)
            have hbl5 := hr5.lt
            clear hr5
            rw [hlen]
            rw [ht0] at hk0
            rw [ht1'] at hk1
            simp only [Nat.zero_mul, Nat.add_zero, Nat.one_mul] at hk0 hk1
            go_wp2
            go_quiet (fail)
            go_wp2
            refine ⟨⟨n + 1, by omega, by omega, by go_num, bdrewN HXB.out _⟩, by simp [intOf]; omega⟩
          · have HRX := Lib.hid (HR.out.below HBX.out)
            rw [hgl] at HGL
            go_wp2
            go_region_held3 (fun w' => w'.cell? ⟨bb, o + q * 3 + 1, none⟩ = some (.string (ofL P1)) ∧ w'.cell? ⟨bb, o + n * 3 + 1, none⟩ = some (.string (ofL P2)))
              (first | go_keep | exact ⟨(hba.cell (p := ⟨bb, _, none⟩) hbl).trans ht1, (hba.cell (p := ⟨bb, _, none⟩) hbl).trans ht2⟩)
              ((go_at_call 18; refine (gluew P1 P2 _ (HE3.out.below (HBX.out.trans ((bdrewN (Below.refl _ _) _).mono HBX.out.size))) (by omega) _ HGL.out).mono ?_; rintro e wa ⟨rfl, hba⟩))
            have hxa : Below w3.heap.size w3 wa := HBX.out.trans (((Below.refl _ _).drew.trans hba).mono HBX.out.size)
            have HXA := Lib.hid hxa; clear hxa
            have hza := hba.size
            have hta : wa.cell? ⟨bb, o + q * 3 + 1, none⟩ = some (.string (ofL P1)) := (hba.cell (p := ⟨bb, _, none⟩) hbl).trans ht1
            have htb : wa.cell? ⟨bb, o + n * 3 + 1, none⟩ = some (.string (ofL P2)) := (hba.cell (p := ⟨bb, _, none⟩) hbl).trans ht2
            have hbla : bb < wa.heap.size := Nat.lt_of_lt_of_le hbl hza
            have HBA := Lib.hid hba; clear hba
            have hcat : ¬ 9223372036854775807 < P1.length + P2.length := by omega
            go_wp2
            go_region_held3 (fun w' => w'.cell? ⟨bb, o + q * 3 + 1, none⟩ = some (.string (ofL P1)) ∧ w'.cell? ⟨bb, o + n * 3 + 1, none⟩ = some (.string (ofL P2)))
              (first | go_keep | exact ⟨(hbb.cell (p := ⟨bb, _, none⟩) hbla).trans hta, (hbb.cell (p := ⟨bb, _, none⟩) hbla).trans htb⟩)
              ((go_at_call 15; refine (read_any (P1 ++ P2) _ (HE3.out.below (HXA.out.trans ((bdrewN (Below.refl _ _) _).mono HXA.out.size))) (by rw [List.length_append]; omega)).mono ?_; rintro e wb ⟨v5, rfl, ht5, hbb⟩))
            have hxb : Below w3.heap.size w3 wb := HXA.out.trans (((Below.refl _ _).drew.trans hbb).mono HXA.out.size)
            have HXB := Lib.hid hxb; clear hxb
            have hzb := hbb.size
            have htc : wb.cell? ⟨bb, o + q * 3 + 1, none⟩ = some (.string (ofL P1)) := (hbb.cell (p := ⟨bb, _, none⟩) hbla).trans hta
            have htd : wb.cell? ⟨bb, o + n * 3 + 1, none⟩ = some (.string (ofL P2)) := (hbb.cell (p := ⟨bb, _, none⟩) hbla).trans htb
            have hblb : bb < wb.heap.size := Nat.lt_of_lt_of_le hbla hzb
            have HBB := Lib.hid hbb; clear hbb ht1 ht2 hta htb
            obtain ⟨M, hM⟩ : ∃ M, M = Mist.read (P1 ++ P2) := ⟨_, rfl⟩
            rw [← hM] at ht5 her ⊢
            clear hM
            have her' : ((M.2.2 : Int) == 0) = false := by simpa using her
            clear her
            obtain ⟨A5, c5, rfl⟩ : ∃ A c, v5 = .slice A M.1.length c := by obtain ⟨A, c, h, _⟩ := ht5; exact ⟨A, c, h⟩
            go_wp2
            go_quiet (fail)
            go_wp2
            refine ⟨⟨n + 1, by omega, by omega, by go_num, bdrewN HXB.out _⟩, by simp [intOf]; omega⟩
          · have HRX := Lib.hid (HR.out.below HBX.out)
            rw [hgl] at HGL
            go_wp2
            go_region_held3 (fun w' => w'.cell? ⟨bb, o + q * 3 + 1, none⟩ = some (.string (ofL P1)) ∧ w'.cell? ⟨bb, o + n * 3 + 1, none⟩ = some (.string (ofL P2)))
              (first | go_keep | exact ⟨(hba.cell (p := ⟨bb, _, none⟩) hbl).trans ht1, (hba.cell (p := ⟨bb, _, none⟩) hbl).trans ht2⟩)
              ((go_at_call 18; refine (gluew P1 P2 _ (HE3.out.below (HBX.out.trans ((bdrewN (Below.refl _ _) _).mono HBX.out.size))) (by omega) _ HGL.out).mono ?_; rintro e wa ⟨rfl, hba⟩))
            have hxa : Below w3.heap.size w3 wa := HBX.out.trans (((Below.refl _ _).drew.trans hba).mono HBX.out.size)
            have HXA := Lib.hid hxa; clear hxa
            have hza := hba.size
            have hta : wa.cell? ⟨bb, o + q * 3 + 1, none⟩ = some (.string (ofL P1)) := (hba.cell (p := ⟨bb, _, none⟩) hbl).trans ht1
            have htb : wa.cell? ⟨bb, o + n * 3 + 1, none⟩ = some (.string (ofL P2)) := (hba.cell (p := ⟨bb, _, none⟩) hbl).trans ht2
            have hbla : bb < wa.heap.size := Nat.lt_of_lt_of_le hbl hza
            have HBA := Lib.hid hba; clear hba
            have hcat : ¬ 9223372036854775807 < P1.length + P2.length := by omega
            go_wp2
            go_region_held3 (fun w' => w'.cell? ⟨bb, o + q * 3 + 1, none⟩ = some (.string (ofL P1)) ∧ w'.cell? ⟨bb, o + n * 3 + 1, none⟩ = some (.string (ofL P2)))
              (first | go_keep | exact ⟨(hbb.cell (p := ⟨bb, _, none⟩) hbla).trans hta, (hbb.cell (p := ⟨bb, _, none⟩) hbla).trans htb⟩)
              ((go_at_call 15; refine (read_any (P1 ++ P2) _ (HE3.out.below (HXA.out.trans ((bdrewN (Below.refl _ _) _).mono HXA.out.size))) (by rw [List.length_append]; omega)).mono ?_; rintro e wb ⟨v5, rfl, ht5, hbb⟩))
            have hxb : Below w3.heap.size w3 wb := HXA.out.trans (((Below.refl _ _).drew.trans hbb).mono HXA.out.size)
            have HXB := Lib.hid hxb; clear hxb
            have hzb := hbb.size
            have htc : wb.cell? ⟨bb, o + q * 3 + 1, none⟩ = some (.string (ofL P1)) := (hbb.cell (p := ⟨bb, _, none⟩) hbla).trans hta
            have htd : wb.cell? ⟨bb, o + n * 3 + 1, none⟩ = some (.string (ofL P2)) := (hbb.cell (p := ⟨bb, _, none⟩) hbla).trans htb
            have hblb : bb < wb.heap.size := Nat.lt_of_lt_of_le hbla hzb
            have HBB := Lib.hid hbb; clear hbb ht1 ht2 hta htb
            obtain ⟨M, hM⟩ : ∃ M, M = Mist.read (P1 ++ P2) := ⟨_, rfl⟩
            rw [← hM] at ht5 her hlen ⊢
            clear hM
            have her' : ((M.2.2 : Int) == 0) = true := by simp [her]
            have HER := Lib.hid her; clear her
            obtain ⟨A5, c5, rfl⟩ : ∃ A c, v5 = .slice A M.1.length c := by obtain ⟨A, c, h, _⟩ := ht5; exact ⟨A, c, h⟩
            have hle : ((M.1.length : Int) == 2) = false := by rw [beq_eq_false_iff_ne]; omega
            have HLEN := Lib.hid hlen; clear hlen
            go_wp2
            go_quiet (fail)
            go_wp2
            refine ⟨⟨n + 1, by omega, by omega, by go_num, bdrewN HXB.out _⟩, by simp [intOf]; omega⟩
          · have HRX := Lib.hid (HR.out.below HBX.out)
            rw [hgl] at HGL
            go_wp2
            go_region_held3 (fun w' => w'.cell? ⟨bb, o + q * 3 + 1, none⟩ = some (.string (ofL P1)) ∧ w'.cell? ⟨bb, o + n * 3 + 1, none⟩ = some (.string (ofL P2)))
              (first | go_keep | exact ⟨(hba.cell (p := ⟨bb, _, none⟩) hbl).trans ht1, (hba.cell (p := ⟨bb, _, none⟩) hbl).trans ht2⟩)
              ((go_at_call 18; refine (gluew P1 P2 _ (HE3.out.below (HBX.out.trans ((bdrewN (Below.refl _ _) _).mono HBX.out.size))) (by omega) _ HGL.out).mono ?_; rintro e wa ⟨rfl, hba⟩))
            have hxa : Below w3.heap.size w3 wa := HBX.out.trans (((Below.refl _ _).drew.trans hba).mono HBX.out.size)
            have HXA := Lib.hid hxa; clear hxa
            have hza := hba.size
            have hta : wa.cell? ⟨bb, o + q * 3 + 1, none⟩ = some (.string (ofL P1)) := (hba.cell (p := ⟨bb, _, none⟩) hbl).trans ht1
            have htb : wa.cell? ⟨bb, o + n * 3 + 1, none⟩ = some (.string (ofL P2)) := (hba.cell (p := ⟨bb, _, none⟩) hbl).trans ht2
            have hbla : bb < wa.heap.size := Nat.lt_of_lt_of_le hbl hza
            have HBA := Lib.hid hba; clear hba
            have hcat : ¬ 9223372036854775807 < P1.length + P2.length := by omega
            go_wp2
            go_region_held3 (fun w' => w'.cell? ⟨bb, o + q * 3 + 1, none⟩ = some (.string (ofL P1)) ∧ w'.cell? ⟨bb, o + n * 3 + 1, none⟩ = some (.string (ofL P2)))
              (first | go_keep | exact ⟨(hbb.cell (p := ⟨bb, _, none⟩) hbla).trans hta, (hbb.cell (p := ⟨bb, _, none⟩) hbla).trans htb⟩)
              ((go_at_call 15; refine (read_any (P1 ++ P2) _ (HE3.out.below (HXA.out.trans ((bdrewN (Below.refl _ _) _).mono HXA.out.size))) (by rw [List.length_append]; omega)).mono ?_; rintro e wb ⟨v5, rfl, ht5, hbb⟩))
            have hxb : Below w3.heap.size w3 wb := HXA.out.trans (((Below.refl _ _).drew.trans hbb).mono HXA.out.size)
            have HXB := Lib.hid hxb; clear hxb
            have hzb := hbb.size
            have htc : wb.cell? ⟨bb, o + q * 3 + 1, none⟩ = some (.string (ofL P1)) := (hbb.cell (p := ⟨bb, _, none⟩) hbla).trans hta
            have htd : wb.cell? ⟨bb, o + n * 3 + 1, none⟩ = some (.string (ofL P2)) := (hbb.cell (p := ⟨bb, _, none⟩) hbla).trans htb
            have hblb : bb < wb.heap.size := Nat.lt_of_lt_of_le hbla hzb
            have HBB := Lib.hid hbb; clear hbb ht1 ht2 hta htb
            obtain ⟨M, hM⟩ : ∃ M, M = Mist.read (P1 ++ P2) := ⟨_, rfl⟩
            rw [← hM] at ht5 her hlen ht0 ⊢
            clear hM
            have her' : ((M.2.2 : Int) == 0) = true := by simp [her]
            have HER := Lib.hid her; clear her
            obtain ⟨b5, o5, c5, rfl, _, hr5⟩ := ht5.row (by omega)
            have hk0 := hr5.text 0 (by omega)
            have hk1 := hr5.text 1 (by omega)
            have hbl5 := hr5.lt
            clear hr5
            rw [hlen]
            have hk5 : ((tg M.1 0).text == P1) = false := by rw [beq_eq_false_iff_ne]; exact ht0
            simp only [Nat.zero_mul, Nat.add_zero, Nat.one_mul] at hk0 hk1
            go_wp2
            go_quiet (fail)
            go_wp2
            refine ⟨⟨n + 1, by omega, by omega, by go_num, bdrewN HXB.out _⟩, by simp [intOf]; omega⟩
        · go_wp2_with fail
          refine (known_any _ (HE3.out.below HBX.out)).mono ?_
          rintro e wz ⟨rfl, hbz⟩
          have HBZ := Lib.hid (HB3.out.trans ((HBX.out.trans (hbz.mono HBX.out.size)).mono HB3.out.size)); clear hbz
          go_wp2_with fail
          go_ret
          exact ⟨rfl, HBZ.out⟩
end Go.Proofs.YtkckmnipidpdeaaDoor
