/-
  THE LAW TokenGaps, walked: for any pairs of bytes it answers true and leaves the old memory as it was.
-/
import Derived.Test.YtkckmnipidpdeaaDoorWalkM6
namespace Go.Proofs.YtkckmnipidpdeaaDoor
open Go.RowKit Mist
attribute [local go_sem] ofL_extract ofL_size ofL_get ofL_bytes ofL_append
set_option maxRecDepth 100000 in
set_option maxHeartbeats 4000000 in
theorem gaps_law (v : Value) (bs : List (Nat × Nat)) (x y : Nat) (w : World) (hE : Env w) (hv : Pairs w v bs) (hby : ∀ p ∈ bs, p.1 < 256 ∧ p.2 < 256) (hl : bs.length ≤ 4611686018427387904) (hx : x < 256) (hy : y < 256) :
    Calls Tryd.prog 11 #[v, .agg #[.int .u8 x, .int .u8 y]] w fun e w' => e = .returned (.bool true) ∧ Below w.heap.size w w' := by
  have HE := Lib.hid hE; clear hE
  go_enter Tryd.func11, Tryd.ntmps11
  go_wp2_with fail
  refine (made_any v bs 40 _ (hv.below (by first | exact Below.refl _ _ | exact (Below.refl _ _).alloc (Nat.le_refl _) _)) (by omega) hby hl).mono ?_
  rintro e w1 ⟨v1, rfl, ht1, hb1⟩
  have bV := (Blk.new w 54 #[.int .u8 x, .int .u8 y]).below hb1 (by simp)
  have cv0 : w1.cell? ⟨w.heap.size, 0, none⟩ = some (.int .u8 x) := bV.cell 0
  have cv1 : w1.cell? ⟨w.heap.size, 1, none⟩ = some (.int .u8 y) := bV.cell 1
  clear bV
  have h40 : (bs.take 40).length ≤ 40 := by rw [List.length_take]; omega
  obtain ⟨B, hB⟩ : ∃ B, B = bs.take 40 := ⟨_, rfl⟩
  rw [← hB] at ht1 h40 ⊢
  clear hB hv hby hl
  have hsl := madeText_len B
  have hll := madeToks_len B
  have hg := gaps_read B h40
  have hck := made_check B (by omega)
  obtain ⟨n, hn⟩ : ∃ n, n = x % ((madeToks B).length + 1) := ⟨_, rfl⟩
  have hrem : Int.tmod (x : Int) (((madeToks B).length : Int) + 1) = (n : Int) := by
    rw [Int.tmod_eq_emod_of_nonneg (by omega), hn]; simp
  have hnl : n ≤ (madeToks B).length := by have := Nat.mod_lt x (show 0 < (madeToks B).length + 1 by omega); omega
  clear hn
  obtain ⟨S, hS⟩ : ∃ S, S = madeText B := ⟨_, rfl⟩
  obtain ⟨L, hL⟩ : ∃ L, L = madeToks B := ⟨_, rfl⟩
  rw [← hS] at hsl hg ⊢
  rw [← hL] at ht1 hll hg hrem hnl hck
  rw [← hll] at hg
  clear hS hL
  have hS2 : S.length ≤ 800 := by omega
  have hL2 : L.length ≤ 40 := by omega
  clear hsl hll h40
  have HG := Lib.hid hg; clear hg
  have HCK := Lib.hid hck; clear hck
  have HT1 := Lib.hid ht1; clear ht1
  have HE1 := Lib.hid (HE.out.below (((Below.refl _ _).alloc (Nat.le_refl _) _).trans (hb1.mono (by simp))))
  have HB1 := Lib.hid (((Below.refl _ _).alloc (Nat.le_refl _) _).trans (hb1.mono (by simp))); clear hb1
  have hgl := (gaps_valid _ (gapOf_mem y)).1
  by_cases hnlt : n < L.length
  · obtain ⟨bb, o, c, rfl, _, hr⟩ := HT1.out.row (by omega)
    have ha := hr.at_ n hnlt
    have hbl := hr.lt
    clear hr
    have hp := (place_ok L HCK.out n hnlt).1
    obtain ⟨a, haa⟩ : ∃ a : Nat, (tg L n).at_ = a := ⟨(tg L n).at_.toNat, by omega⟩
    rw [haa] at ha
    obtain ⟨ha1, m, hm1, hm2, hm3⟩ := HG.out a (.inl ⟨n, hnlt, haa⟩) y
    clear hp haa
    obtain ⟨T, hT⟩ : ∃ T, T = S.take a ++ gapOf y ++ S.drop a ++ [32, 35, 32, 93] := ⟨_, rfl⟩
    rw [← hT] at hm1 hm3
    have hTl : T.length ≤ 100000000 := by rw [hT]; simp only [List.length_append, List.length_take, List.length_drop, List.length_cons, List.length_nil]; omega
    have HTX := Lib.hid (show ofL (S.take a ++ (gapOf y ++ S.drop a)) ++ (⟨#[32, 35, 32, 93]⟩ : ByteArray) = ofL T by
      rw [hT]; exact (ofL_append _ [32, 35, 32, 93]).trans (by simp))
    clear hT
    have hmn : m.length = L.length := by
      have := congrArg List.length (show L.map faceOf = m.map faceOf by unfold alikeB at hm2; simpa using hm2)
      simpa using this.symm
    have HM1 := Lib.hid hm1; clear hm1
    have HM2 := Lib.hid hm2; clear hm2
    have HM3 := Lib.hid hm3; clear hm3
    go_wp2
    go_quiet ((go_at_call 37; exact Calls.quiet_of_same ((gapw_any y _ hy).mono fun _ _ h => ⟨h.1, h.2.symm⟩)))
    go_wp2_with fail
    rw [HTX.out]
    refine (readw T m _ (HE1.out.below (bdrewN (Below.refl _ _) _)) hTl HM1.out).mono ?_
    rintro e w2 ⟨v2, rfl, ht2, hb2⟩
    have hbq : Below w1.heap.size w1 w2 := (bdrewN (Below.refl _ _) _).trans hb2
    have HM := Lib.hid ht2; clear ht2
    have HT2 := Lib.hid (HT1.out.below hbq)
    have HE2 := Lib.hid (HE1.out.below hbq)
    have HB2 := Lib.hid (HB1.out.trans (hbq.mono HB1.out.size)); clear hb2 hbq
    go_wp2_with fail
    refine (samew S T _ HE2.out (by omega) hTl HM3.out).mono ?_
    rintro e w3 ⟨rfl, hb3⟩
    have HM' := Lib.hid (HM.out.below hb3)
    have HT3 := Lib.hid (HT2.out.below hb3)
    have HE3 := Lib.hid (HE2.out.below hb3)
    have HB3 := Lib.hid (HB2.out.trans (hb3.mono HB2.out.size)); clear hb3
    go_wp2_with fail
    refine (alikew _ v2 L m true _ HT3.out HM'.out (by omega) (by omega) HM2.out).mono ?_
    rintro e w4 ⟨rfl, hb4⟩
    have HE4 := Lib.hid (HE3.out.below hb4)
    have HB4 := Lib.hid (HB3.out.trans (hb4.mono HB3.out.size)); clear hb4
    go_wp2_with fail
    refine (known_any _ HE4.out).mono ?_
    rintro e wz ⟨rfl, hbz⟩
    have HBZ := Lib.hid (HB4.out.trans (hbz.mono HB4.out.size)); clear hbz
    go_wp2_with fail
    go_ret
    exact ⟨rfl, HBZ.out⟩
  · obtain ⟨ha1, m, hm1, hm2, hm3⟩ := HG.out S.length (.inr rfl) y
    obtain ⟨A1, c1, rfl⟩ : ∃ A c, v1 = .slice A L.length c := by obtain ⟨A, c, h, _⟩ := HT1.out; exact ⟨A, c, h⟩
    obtain ⟨T, hT⟩ : ∃ T, T = S.take S.length ++ gapOf y ++ S.drop S.length ++ [32, 35, 32, 93] := ⟨_, rfl⟩
    rw [← hT] at hm1 hm3
    have hTl : T.length ≤ 100000000 := by rw [hT]; simp only [List.length_append, List.length_take, List.length_drop, List.length_cons, List.length_nil]; omega
    have HTX := Lib.hid (show ofL (S ++ gapOf y) ++ (⟨#[32, 35, 32, 93]⟩ : ByteArray) = ofL T by
      rw [hT]; exact (ofL_append _ [32, 35, 32, 93]).trans (by simp))
    clear hT
    have hmn : m.length = L.length := by
      have := congrArg List.length (show L.map faceOf = m.map faceOf by unfold alikeB at hm2; simpa using hm2)
      simpa using this.symm
    have HM1 := Lib.hid hm1; clear hm1
    have HM2 := Lib.hid hm2; clear hm2
    have HM3 := Lib.hid hm3; clear hm3
    go_wp2
    go_quiet ((go_at_call 37; exact Calls.quiet_of_same ((gapw_any y _ hy).mono fun _ _ h => ⟨h.1, h.2.symm⟩)))
    go_wp2_with fail
    rw [HTX.out]
    refine (readw T m _ (HE1.out.below (bdrewN (Below.refl _ _) _)) hTl HM1.out).mono ?_
    rintro e w2 ⟨v2, rfl, ht2, hb2⟩
    have hbq : Below w1.heap.size w1 w2 := (bdrewN (Below.refl _ _) _).trans hb2
    have HM := Lib.hid ht2; clear ht2
    have HT2 := Lib.hid (HT1.out.below hbq)
    have HE2 := Lib.hid (HE1.out.below hbq)
    have HB2 := Lib.hid (HB1.out.trans (hbq.mono HB1.out.size)); clear hb2 hbq
    go_wp2_with fail
    refine (samew S T _ HE2.out (by omega) hTl HM3.out).mono ?_
    rintro e w3 ⟨rfl, hb3⟩
    have HM' := Lib.hid (HM.out.below hb3)
    have HT3 := Lib.hid (HT2.out.below hb3)
    have HE3 := Lib.hid (HE2.out.below hb3)
    have HB3 := Lib.hid (HB2.out.trans (hb3.mono HB2.out.size)); clear hb3
    go_wp2_with fail
    refine (alikew _ v2 L m true _ HT3.out HM'.out (by omega) (by omega) HM2.out).mono ?_
    rintro e w4 ⟨rfl, hb4⟩
    have HE4 := Lib.hid (HE3.out.below hb4)
    have HB4 := Lib.hid (HB3.out.trans (hb4.mono HB3.out.size)); clear hb4
    go_wp2_with fail
    refine (known_any _ HE4.out).mono ?_
    rintro e wz ⟨rfl, hbz⟩
    have HBZ := Lib.hid (HB4.out.trans (hbz.mono HB4.out.size)); clear hbz
    go_wp2_with fail
    go_ret
    exact ⟨rfl, HBZ.out⟩
end Go.Proofs.YtkckmnipidpdeaaDoor
