/-
  WALKS: token.Join.
-/
import Derived.Test.YtkckmnipidpdeaaDoorWalkZ
import Derived.Deep.QuietTactic
namespace Go.Proofs.YtkckmnipidpdeaaDoor
open Go.RowKit Mist
attribute [local go_sem] ofL_extract ofL_size ofL_get ofL_bytes ofL_append spaces_len
set_option maxRecDepth 100000 in
set_option maxHeartbeats 4000000 in
theorem join_any (v : Value) (l : List Tok) (w : World) (hE : Env w) (hv : Toks w v l) (hok : TokOk l) :
    Calls Tryd.prog 31 #[v] w (JoinPost l w) := by
  have HE := Lib.hid hE; clear hE
  have HV := Lib.hid hv; clear hv
  by_cases hc : checkToks l = 0
  case neg =>
    have hc' : ((checkToks l : Int) != 0) = true := by simp; omega
    have HC := Lib.hid (joinOf_bad l hc); clear hc
    go_enter Tryd.func31, Tryd.ntmps31
    go_wp2_with (go_at_call 30; refine (tcheck_any v l _ HE.out HV.out hok).mono ?_; rintro e w' ⟨rfl, hb⟩)
    go_ret2
    exact joinPost_of HC.out rfl hb
  have hc' : ((checkToks l : Int) != 0) = false := by simp; omega
  have HK := Lib.hid (checkToks_len l hc)
  have HPL := Lib.hid (place_ok l hc)
  have hl8 := (checkToks_zero l hc).1
  have HCZ := Lib.hid hc; clear hc
  have HOK := Lib.hid hok; clear hok
  obtain ⟨A, c, rfl⟩ : ∃ A c, v = .slice A l.length c := by obtain ⟨A, c, h, _⟩ := HV.out; exact ⟨A, c, h⟩
  go_enter Tryd.func31, Tryd.ntmps31
  go_wp2_with (go_at_call 30; refine (tcheck_any _ l _ HE.out HV.out HOK.out).mono ?_; rintro e w0 ⟨rfl, hb0⟩)
  have hz0 := hb0.size
  have HB0 := Lib.hid hb0; clear hb0
  go_loopw [16] (fun i wr => ∃ (n : Nat) (out : Bs), n ≤ l.length ∧ i = .int .i64 n ∧ out.length ≤ 2000 ∧ (out.length : Int) = endOf l n ∧ joinGo [] [] l = joinGo (lastText l n) out (l.drop n) ∧ (lastText l n).length ≤ 12 ∧ Bld 73 w.heap.size w0.heap.size [.string (ofL (lastText l n))] out wr ∧ Below w.heap.size w wr) (fun i _ => l.length - (intOf i).toNat)
  case atStart => exact ⟨0, [], Nat.zero_le _, rfl, by simp, by simp [endOf_zero], rfl, by simp [lastText_zero], Bld.new _ _ [.string (ofL [])] _ hz0, HB0.out.alloc hz0 _⟩
  case round =>
    obtain ⟨n, out, hn, rfl, hout, hend, htx, hlast, hbl, hb⟩ := hrel
    have HT := Lib.hid htx; clear htx
    have HEND := Lib.hid hend; clear hend
    have HBL := Lib.hid hbl; clear hbl
    have HB := Lib.hid hb; clear hb
    by_cases hlt : n < l.length
    · obtain ⟨b, o, rfl, hr⟩ := HV.out.rowA (by omega)
      have hk := (hr.below HB.out).kind n hlt
      have ht := (hr.below HB.out).text n hlt
      have ha := (hr.below HB.out).at_ n hlt
      have hbs := (hr.below HB.out).lt
      have hbz := HB.out.size
      clear hr
      obtain ⟨hl1, hl2⟩ := HK.out n hlt
      obtain ⟨hp1, hp2, hp3⟩ := HPL.out n hlt
      have hp4 : (out.length : Int) ≤ (tg l n).at_ := by rw [HEND.out]; exact hp2
      clear hp2
      have HE1 := Lib.hid (endOf_succ l n)
      obtain ⟨m, hm⟩ : ∃ m : Nat, (tg l n).at_ = m := ⟨(tg l n).at_.toNat, by omega⟩
      rw [hm] at ha hp1 hp3 hp4
      have HM := Lib.hid hm; clear hm
      obtain ⟨d, hd⟩ : ∃ d, m = out.length + d := ⟨m - out.length, by omega⟩
      have hwd : IntKind.i64.wrap ((m : Int) - (out.length : Int)) = (d : Int) := by rw [IntWalk.i64_in _ (by omega)]; omega
      have HD := Lib.hid hd; clear hd
      have HDL := Lib.hid (show d ≤ 2000 by have := HD.out; omega)
      have HEW := Lib.hid ((HE.out.below HB.out).alloc (.cells #[.int .u8 (tg l n).kind, .string (ofL (tg l n).text), .int .i64 m] 38))
      have HBW := Lib.hid (HBL.out.below ((Below.refl wr.heap.size wr).alloc (Nat.le_refl _) (.cells #[.int .u8 (tg l n).kind, .string (ofL (tg l n).text), .int .i64 m] 38)))
      have HBWL := Lib.hid HBW.out.lt
      by_cases hd0 : d = 0
      · have hd1 : ((d : Int) == 0) = true := by simp [hd0]
        have HD0 := Lib.hid hd0; clear hd0
        cases hnd : needB (lastText l n) (tg l n).text
        · have HST := Lib.hid (joinGo_step l n hlt (lastText l n) out (by rw [hnd]; simp))
          go_wp2
          go_quiet ((go_at_call 58; exact Calls.quiet_of_same ((len_any 73 w.heap.size w0.heap.size _ out _ (HBW.out.below (bdrewN (Below.refl _ _) _))).mono fun _ _ h => ⟨h.1, h.2.symm⟩)))
          go_wp2_with (first
            | (go_at_call 55; refine (put_any w.heap.size _ d _ out ⟨(tg l n).kind, (tg l n).text, m⟩ _ (HBW.out.below hb2) (by omega) (by show out.length + d + (tg l n).text.length ≤ 1000000000; have := HDL.out; omega)).mono ?_; rintro e w2 ⟨rfl, hB2, hb3⟩)
            | (go_at_call 54; refine (needs_any _ _ _ (lastText l n) out ⟨(tg l n).kind, (tg l n).text, m⟩ _ (HEW.out.below (bdrewN (Below.refl _ _) _)) (HBW.out.below (bdrewN (Below.refl _ _) _)) (by show (lastText l n).length + (tg l n).text.length ≤ 100000000; omega)).mono ?_; rintro e w1 ⟨rfl, hb1⟩; have hb2 : Below (wr.alloc (.cells #[.int .u8 (tg l n).kind, .string (ofL (tg l n).text), .int .i64 m] 38)).heap.size (wr.alloc (.cells #[.int .u8 (tg l n).kind, .string (ofL (tg l n).text), .int .i64 m] 38)) w1 := (bdrewN (Below.refl _ _) _).trans hb1; clear hb1; obtain ⟨hcell, hfro⟩ := bcell hb2; have hz1 := hb2.size; simp only [World.size_alloc] at hz1))
          have hbw : Below w.heap.size w w1 := (HB.out.alloc hbz _).trans (hb2.mono (by simp; omega))
          exact ⟨⟨n + 1, out ++ spaces d ++ (tg l n).text, by omega, by go_num, by simp [spaces]; have := HD.out; omega, by rw [HE1.out, HM.out]; simp [spaces]; have := HD.out; omega, by rw [HT.out, HST.out, HM.out, Int.toNat_natCast, lastText_succ, show m - out.length = d by have := HD.out; omega], by rw [lastText_succ]; exact hl1, by rw [lastText_succ]; exact hB2, hbw.trans hb3⟩, by simp [intOf]; omega⟩
        · have HST := Lib.hid (joinGo_stop l n hlt (lastText l n) out (by rw [HM.out, HD.out, HD0.out]; rfl) hnd)
          go_wp2
          go_quiet ((go_at_call 58; exact Calls.quiet_of_same ((len_any 73 w.heap.size w0.heap.size _ out _ (HBW.out.below (bdrewN (Below.refl _ _) _))).mono fun _ _ h => ⟨h.1, h.2.symm⟩)))
          go_wp2_with (first
            | (go_at_call 54; refine (needs_any _ _ _ (lastText l n) out ⟨(tg l n).kind, (tg l n).text, m⟩ _ (HEW.out.below (bdrewN (Below.refl _ _) _)) (HBW.out.below (bdrewN (Below.refl _ _) _)) (by show (lastText l n).length + (tg l n).text.length ≤ 100000000; omega)).mono ?_; rintro e w1 ⟨rfl, hb1⟩; have hb2 : Below (wr.alloc (.cells #[.int .u8 (tg l n).kind, .string (ofL (tg l n).text), .int .i64 m] 38)).heap.size (wr.alloc (.cells #[.int .u8 (tg l n).kind, .string (ofL (tg l n).text), .int .i64 m] 38)) w1 := (bdrewN (Below.refl _ _) _).trans hb1; clear hb1; obtain ⟨hcell, hfro⟩ := bcell hb2; have hz1 := hb2.size; simp only [World.size_alloc] at hz1))
          go_ret2
          exact joinPost_of (joinOf_none l HCZ.out (HT.out.trans HST.out)) rfl ((HB.out.alloc hbz _).trans (hb2.mono (by simp; omega)))
      · have hd1 : ((d : Int) == 0) = false := by simp; omega
        have HST := Lib.hid (joinGo_step l n hlt (lastText l n) out (by rw [HM.out, HD.out]; intro h; omega))
        clear hd0
        go_wp2
        go_quiet ((go_at_call 58; exact Calls.quiet_of_same ((len_any 73 w.heap.size w0.heap.size _ out _ (HBW.out.below (bdrewN (Below.refl _ _) _))).mono fun _ _ h => ⟨h.1, h.2.symm⟩)))
        go_wp2_with (first
          | (go_at_call 55; refine (put_any w.heap.size _ d _ out ⟨(tg l n).kind, (tg l n).text, m⟩ _ (HBW.out.below (bdrewN (Below.refl _ _) _)) (by show w.heap.size ≤ (wr.alloc _).heap.size; rw [World.size_alloc]; omega) (by show out.length + d + (tg l n).text.length ≤ 1000000000; have := HDL.out; omega)).mono ?_; rintro e w2 ⟨rfl, hB2, hb3⟩))
        exact ⟨⟨n + 1, out ++ spaces d ++ (tg l n).text, by omega, by go_num, by simp [spaces]; have := HD.out; omega, by rw [HE1.out, HM.out]; simp [spaces]; have := HD.out; omega, by rw [HT.out, HST.out, HM.out, Int.toNat_natCast, lastText_succ, show m - out.length = d by have := HD.out; omega], by rw [lastText_succ]; exact hl1, by rw [lastText_succ]; exact hB2, (bdrewN (HB.out.alloc hbz _) _).trans hb3⟩, by simp [intOf]; omega⟩
    · go_wp2_with (go_at_call 56; refine (string_any _ _ _ _ out _ HBL.out HB.out.size).mono ?_; rintro e w2 ⟨rfl, hb2⟩)
      go_ret2
      exact joinPost_of (joinOf_some l HCZ.out out (HT.out.trans (joinGo_end l n (by omega) _ out))) rfl (HB.out.trans hb2)
end Go.Proofs.YtkckmnipidpdeaaDoor
