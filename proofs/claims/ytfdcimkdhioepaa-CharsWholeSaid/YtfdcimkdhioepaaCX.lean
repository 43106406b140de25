/-
  WALKS of chapter 1: mistref01.Line, Show.
-/
import Derived.Test.YtfdcimkdhioepaaCU
import Derived.Test.YtfdcimkdhioepaaCV
import Derived.Deep.RegionHeld3
namespace Go.Proofs.Ytfdcimkdhioepaa
open Go.RowKit Go.Shelf Mist
attribute [local go_sem] ofL_extract ofL_size ofL_get ofL_bytes ofL_append
theorem partsOf_len (s : Bs) (l : List (Nat × Nat)) : (partsOf s l).length = l.length := by unfold partsOf; rw [List.length_map]
theorem sg_parts (s : Bs) (l : List (Nat × Nat)) (n : Nat) (p : Nat × Nat) (h : l[n]? = some p) : sg (partsOf s l) n = cutOf s p := by
  obtain ⟨hn, he⟩ := List.getElem?_eq_some_iff.1 h
  rw [sg_eq _ _ (by rw [partsOf_len]; exact hn)]
  simp [partsOf, he]
theorem linesOf_pos (s : Bs) : 0 < (linesOf s).length := by
  have := linesFrom_count s 0 0
  show 0 < (linesFrom 0 0 s).length; omega
theorem lineOf_bad (s : Bs) (k : Int) (h : (check s).2 ≠ 0) : lineOf s k = ([], (check s).2) := by unfold lineOf; rw [numberedOf_bad s k h]; simp only; rw [if_pos h]
theorem lineOf_none (s : Bs) (k : Int) (h : (check s).2 = 0) (hk : ¬ (1 ≤ k ∧ k ≤ ((linesOf s).length : Int))) : lineOf s k = ([], 3) := by unfold lineOf; rw [numberedOf_none s k h hk]; rfl
theorem lineOf_hit (s : Bs) (m : Nat) (h : (check s).2 = 0) (hm : m < (linesOf s).length) : lineOf s ((m : Int) + 1) = (sg (partsOf s (linesOf s)) m, 0) := by
  obtain ⟨p, hp⟩ : ∃ p, (linesOf s)[m]? = some p := ⟨_, List.getElem?_eq_getElem hm⟩
  have hn : numberedOf s ((m : Int) + 1) = (p, 0) := by
    unfold numberedOf
    rw [if_neg (by simpa using h), if_pos (by omega), show ((m : Int) + 1).toNat - 1 = m by omega, List.getD_eq_getElem?_getD, hp]; rfl
  rw [sg_parts s _ m p hp]
  unfold lineOf
  rw [hn]; rfl
def LnPost (s : Bs) (k : Int) (w : World) (e : Ending) (w' : World) : Prop := e = .returned (.tuple #[.string (ofL (lineOf s k).1), .int .i64 (lineOf s k).2]) ∧ Below w.heap.size w w'
theorem lnPost_of {s : Bs} {k : Int} {r : Bs × Nat} {x : Bs} {y : Int} {w w' : World} (h : lineOf s k = r) (hx : x = r.1) (hy : y = r.2) (hb : Below w.heap.size w w') : LnPost s k w (.returned (.tuple #[.string (ofL x), .int .i64 y])) w' := ⟨by rw [h, hx, hy], hb⟩
set_option maxRecDepth 100000 in
set_option maxHeartbeats 1600000 in
theorem rline_any (s : Bs) (k : Int) (w : World) (hl : s.length ≤ 100000000) :
    Calls Try.prog 37 #[.string (ofL s), .int .i64 k] w (LnPost s k w) := by
  by_cases hc : (check s).2 = 0
  case neg =>
    have hc' : (((check s).2 : Int) != 0) = true := by simp; omega
    have HC := Lib.hid (lineOf_bad s k hc); clear hc
    go_enter Try.func37, Try.ntmps37
    go_wp2_with fail
    refine (rcheck_any s _ hl).mono ?_
    rintro e w' ⟨rfl, rfl⟩
    go_wp2_with fail
    go_ret2
    exact lnPost_of HC.out rfl rfl (Below.refl _ _)
  have hc' : (((check s).2 : Int) != 0) = false := by simp [hc]
  have hll := linesOf_len s
  have hlp := linesOf_pos s
  have hpl := partsOf_len s (linesOf s)
  have HH := Lib.hid (fun m => lineOf_hit s m hc)
  have HN := Lib.hid (lineOf_none s k hc); clear hc
  obtain ⟨P, hP⟩ : ∃ P, P = partsOf s (linesOf s) := ⟨_, rfl⟩
  rw [← hP] at hpl HH
  rw [← hpl] at hll hlp HN HH
  have HP := Lib.hid hP; clear hP hpl
  go_enter Try.func37, Try.ntmps37
  go_wp2_with fail
  refine (rcheck_any s _ hl).mono ?_
  rintro e w' ⟨rfl, rfl⟩
  go_wp2_with fail
  refine (parts_any s _ hl).mono ?_
  rintro e w1 ⟨v1, rfl, hs1, hb1⟩
  rw [← HP.out] at hs1
  obtain ⟨A, c, rfl⟩ : ∃ A c, v1 = .slice A P.length c := by obtain ⟨A, c, h, _⟩ := hs1; exact ⟨A, c, h⟩
  obtain ⟨b, o, rfl, hr⟩ := hs1.rowA hlp
  have hblt := hr.lt
  have HR := Lib.hid hr; clear hr hs1
  have HB := Lib.hid hb1; clear hb1
  rcases (by omega : k < 1 ∨ 1 ≤ k) with h1 | h1
  · have HC := Lib.hid (HN.out (by omega))
    go_wp2
    go_ret2
    exact lnPost_of HC.out rfl rfl HB.out
  rcases (by omega : (P.length : Int) < k ∨ k ≤ (P.length : Int)) with h2 | h2
  · have HC := Lib.hid (HN.out (by omega))
    go_wp2
    go_ret2
    exact lnPost_of HC.out rfl rfl HB.out
  · obtain ⟨m, rfl⟩ : ∃ m : Nat, k = (m : Int) + 1 := ⟨(k - 1).toNat, by omega⟩
    have hm : m < P.length := by omega
    have HC := Lib.hid (HH.out m hm)
    have hcell := HR.out.at_ m hm
    go_wp2
    go_ret2
    exact lnPost_of HC.out rfl rfl HB.out
def ShPost (s : Bs) (a : Int) (w : World) (e : Ending) (w' : World) : Prop := e = .returned (.tuple #[.string (ofL (showOf s a).1), .int .i64 (showOf s a).2]) ∧ Below w.heap.size w w'
theorem shPost_of {s : Bs} {k : Int} {r : Bs × Nat} {x : Bs} {y : Int} {w w' : World} (h : showOf s k = r) (hx : x = r.1) (hy : y = r.2) (hb : Below w.heap.size w w') : ShPost s k w (.returned (.tuple #[.string (ofL x), .int .i64 y])) w' := ⟨by rw [h, hx, hy], hb⟩
theorem rplaceV (s : Bs) (a x y : Int) (k : Nat) (w : World) (hl : s.length ≤ 100000000) (h : placeOf s a = ((x, y), k)) :
    Calls Try.prog 23 #[.string (ofL s), .int .i64 a] w fun e w' => e = .returned (.tuple #[.agg #[.int .i64 x, .int .i64 y], .int .i64 k]) ∧ Below w.heap.size w w' := by
  refine (rplace_any s a w hl).mono ?_
  rintro e w' ⟨rfl, hb⟩
  rw [h]; exact ⟨rfl, hb⟩
set_option maxRecDepth 100000 in
set_option maxHeartbeats 3200000 in
theorem rshow_any (s : Bs) (a : Int) (w : World) (hl : s.length ≤ 100000000) :
    Calls Try.prog 38 #[.string (ofL s), .int .i64 a] w (ShPost s a w) := by
  by_cases hc : offErr s a = 0
  case neg =>
    have hc' : ((offErr s a : Int) != 0) = true := by simp; omega
    have HP := Lib.hid (show placeOf s a = ((0, 0), offErr s a) by unfold placeOf; rw [if_pos hc])
    have HC := Lib.hid (showOf_bad s a hc); clear hc
    go_enter Try.func38, Try.ntmps38
    go_wp2_with fail
    refine (rplaceV s a 0 0 _ _ hl HP.out).mono ?_
    rintro e w1 ⟨rfl, hb1⟩
    go_wp2_with fail
    go_ret2
    exact shPost_of HC.out rfl rfl (hb1.alloc hb1.size _)
  have hc' : ((offErr s a : Int) != 0) = false := by simp [hc]
  obtain ⟨hck, h0, h1⟩ := offErr_in s a hc
  obtain ⟨n, rfl⟩ : ∃ n : Nat, a = n := ⟨a.toNat, by omega⟩
  have hn : n ≤ s.length := by omega
  have hA := aroundOf_around s n hn
  have hP := aroundOf_pos s n hn
  have hS := showOf_ok s n hc
  have hPl := placeOf_pos s n hck hn
  obtain ⟨⟨⟨x, y⟩, q⟩, hr⟩ : ∃ r, r = aroundOf s n := ⟨_, rfl⟩
  rw [← hr] at hA hP hS
  obtain ⟨⟨h2, h3⟩, h4, h5, h6⟩ := hA
  simp only [Nat.zero_add, Nat.sub_zero] at h2 h3 h4 h5 h6 hP hS
  obtain ⟨m, rfl⟩ : ∃ m, q = m + 1 := ⟨q - 1, by omega⟩
  obtain ⟨d, hd⟩ : ∃ d, d = n - x := ⟨_, rfl⟩
  rw [← hP, ← hd] at hPl
  rw [show ((n : Int) - (x : Int)).toNat = d by omega] at hS
  rw [show m + 1 - 1 = m by omega] at h4
  have hline := sg_parts s _ m _ h4
  have hpl := partsOf_len s (linesOf s)
  have hcl := cutOf_len s (x, y) (linesOf_mem s _ (List.mem_of_getElem? h4))
  have hyl := (linesOf_mem s _ (List.mem_of_getElem? h4)).2
  have hll := linesOf_len s
  obtain ⟨P, hPP⟩ : ∃ P, P = partsOf s (linesOf s) := ⟨_, rfl⟩
  rw [← hPP] at hline hpl
  have hm : m < P.length := by omega
  have hPlen : P.length ≤ s.length + 1 := by omega
  have hlp : 0 < P.length := by omega
  have hdl : d ≤ s.length := by omega
  obtain ⟨C, hCC⟩ : ∃ C, C = cutOf s (x, y) := ⟨_, rfl⟩
  rw [← hCC] at hline hS hcl
  have hCl : C.length ≤ s.length := by rw [hcl]; simp only at hyl ⊢; omega
  have HP := Lib.hid hPP
  have HPL := Lib.hid (show placeOf s n = (((m : Int) + 1, (d : Int) + 1), 0) from hPl)
  have HS := Lib.hid hS
  have HLN := Lib.hid hline
  clear hPP hPl hS hline hCC hcl hyl hll hpl h4 h5 h6 hr hd hck h2 h3 h0 h1 hP hc
  go_enter Try.func38, Try.ntmps38
  go_wp2_with fail
  refine (rplaceV s n _ _ _ _ hl HPL.out).mono ?_
  rintro e w1 ⟨rfl, hb1⟩
  obtain ⟨W, hW⟩ : ∃ W, W = w1.alloc (.cells #[.int .i64 ((m : Int) + 1), .int .i64 ((d : Int) + 1)] 28) := ⟨_, rfl⟩
  have bP := Blk.new w1 28 #[.int .i64 ((m : Int) + 1), .int .i64 ((d : Int) + 1)]
  have hzW : w1.heap.size < W.heap.size := by rw [hW]; simp
  have HBW := Lib.hid (show Below w.heap.size w W by rw [hW]; exact hb1.alloc hb1.size _)
  rw [← hW] at bP
  go_wp2_with fail
  rw [← hW]
  clear hW hb1
  obtain ⟨g, hg⟩ : ∃ g, g = w1.heap.size := ⟨_, rfl⟩
  rw [← hg] at bP hzW ⊢
  clear hg
  have c0 : W.cell? ⟨g, 0, none⟩ = some (.int .i64 ((m : Int) + 1)) := bP.cell 0
  have hw2 : IntKind.i64.wrap ((m : Int) + 1 - 1) = (m : Int) := by rw [IntWalk.i64_in _ (by omega)]; omega
  have hcA : ¬ 9223372036854775807 < C.length + 1 := by omega
  have hm0 : (0 : Int) ≤ (m : Int) := by omega
  have hmI : (m : Int) < (P.length : Int) := by omega
  have hwm : IntKind.i64.wrap (m : Int) = (m : Int) := by rw [IntWalk.i64_in _ (by omega)]
  go_region_with (go_at_call 44; refine (parts_any s _ hl).mono ?_; rintro e w4 ⟨v4, rfl, hs4, hb4⟩; rw [← HP.out] at hs4; obtain ⟨A, c, rfl⟩ : (∃ A c, v4 = .slice A P.length c) := (by obtain ⟨A, c, h, _⟩ := hs4; exact ⟨A, c, h⟩); obtain ⟨b, o, rfl, hr⟩ := hs4.rowA hlp; have hblt := hr.lt; have hcell := hr.at_ m hm; rw [HLN.out] at hcell; have c4 : w4.cell? ⟨g, 0, none⟩ = some (.int .i64 ((m : Int) + 1)) := (hb4.cell (p := ⟨g, 0, none⟩) hzW).trans c0)
  all_goals
    have bP4 := bP.drew.below hb4 hzW
    have c1 : w4.cell? ⟨g, 1, none⟩ = some (.int .i64 ((d : Int) + 1)) := bP4.cell 1
    have HB4 := Lib.hid (HBW.out.trans (((Below.refl _ _).drew.trans hb4).mono HBW.out.size))
    have HCE := Lib.hid (show ofL C ++ (⟨#[10]⟩ : ByteArray) = ofL (C ++ [10] ++ List.replicate 0 32) by rw [show (⟨#[10]⟩ : ByteArray) = ofL [10] from rfl, ofL_append]; simp)
    clear hb4 bP4 bP hr hs4 hcell
    rw [HCE.out]
    clear HCE
    go_wp2
    go_loopw [8, 9] (fun o i wr => ∃ k : Nat, k ≤ d ∧ i = .int .i64 ((k : Int) + 1) ∧ o = .string (ofL (C ++ [10] ++ List.replicate k 32)) ∧ wr = w4) (fun _ i _ => d + 1 - (intOf i).toNat)
    case atStart => exact ⟨0, Nat.zero_le _, rfl, by simp, rfl⟩
    case round =>
      obtain ⟨k, hk, rfl, rfl, rfl⟩ := hrel
      by_cases hlt : k < d
      · have hlen : (C ++ [10] ++ List.replicate k 32).length ≤ 300000000 := by simp; omega
        have HST := Lib.hid (show ofL (C ++ [10] ++ List.replicate k 32) ++ (⟨#[32]⟩ : ByteArray) = ofL (C ++ [10] ++ List.replicate (k + 1) 32) by rw [show (⟨#[32]⟩ : ByteArray) = ofL [32] from rfl, ofL_append, List.replicate_succ', List.append_assoc _ _ [32]])
        obtain ⟨T, hT⟩ : ∃ T, T = C ++ [10] ++ List.replicate k 32 := ⟨_, rfl⟩
        rw [← hT] at hlen HST ⊢
        clear hT
        go_wp2
        exact ⟨⟨k + 1, by omega, by go_num, by rw [HST.out], by first | rfl | trivial⟩, by simp [intOf]; omega⟩
      · obtain rfl : k = d := by omega
        have hlen : (C ++ [10] ++ List.replicate k 32).length ≤ 300000000 := by simp; omega
        have HST := Lib.hid (show ofL (C ++ [10] ++ List.replicate k 32) ++ (⟨#[94]⟩ : ByteArray) = ofL (C ++ [10] ++ List.replicate k 32 ++ [94]) by rw [show (⟨#[94]⟩ : ByteArray) = ofL [94] from rfl, ofL_append])
        obtain ⟨T, hT⟩ : ∃ T, T = C ++ [10] ++ List.replicate k 32 := ⟨_, rfl⟩
        rw [← hT] at hlen HST HS ⊢
        clear hT
        go_wp2
        rw [HST.out]
        go_ret2
        exact shPost_of HS.out rfl rfl HB4.out
end Go.Proofs.Ytfdcimkdhioepaa
