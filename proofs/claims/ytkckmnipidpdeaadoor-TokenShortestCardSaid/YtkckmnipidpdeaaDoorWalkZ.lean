/-
  WALKS: mistref02.Join and token.Join.
-/
import Derived.Test.YtkckmnipidpdeaaDoorWalkY
namespace Go.Proofs.YtkckmnipidpdeaaDoor
open Go.RowKit Mist
attribute [local go_sem] ofL_extract ofL_size ofL_get ofL_bytes ofL_append
def JoinPost (l : List Tok) (w : World) (e : Ending) (w' : World) : Prop := e = .returned (.tuple #[.string (ofL (joinOf l).1), .int .i64 (joinOf l).2]) ∧ Below w.heap.size w w'
theorem joinPost_of {l : List Tok} {s : Bs} {x : Int} {k : Nat} {w w' : World} (h : joinOf l = (s, k)) (hx : x = k) (hb : Below w.heap.size w w') : JoinPost l w (.returned (.tuple #[.string (ofL s), .int .i64 x])) w' := by
  subst hx; exact ⟨by rw [h], hb⟩
theorem spaces_len (q : Nat) : (spaces q).length = q := by simp [spaces]
attribute [local go_sem] spaces_len
theorem blank_end (a : Bs) (k : Nat) : ofL (a ++ spaces k) ++ ⟨#[32]⟩ = ofL (a ++ spaces (k + 1)) := by
  rw [show (ByteArray.mk #[32]) = ofL [32] from rfl, ofL_append, List.append_assoc]
  congr 2
  simp [spaces, List.replicate_succ']
set_option maxRecDepth 100000 in
set_option maxHeartbeats 4000000 in
theorem rjoin_any (v : Value) (l : List Tok) (w : World) (hv : Toks w v l) (hok : TokOk l) :
    Calls Tryd.prog 32 #[v] w (JoinPost l w) := by
  have HV := Lib.hid hv; clear hv
  by_cases hc : checkToks l = 0
  case neg =>
    have hc' : ((checkToks l : Int) != 0) = true := by simp; omega
    have HC := Lib.hid (joinOf_bad l hc); clear hc
    go_enter Tryd.func32, Tryd.ntmps32
    go_wp2_with (go_at_call 34; refine (rtcheck_any v l _ HV.out hok).mono ?_; rintro e w' ⟨rfl, hb⟩)
    go_ret2
    exact joinPost_of HC.out rfl hb
  have hc' : ((checkToks l : Int) != 0) = false := by simp; omega
  have HK := Lib.hid (checkToks_len l hc)
  have HKK := Lib.hid (kind_at l hc)
  have HPL := Lib.hid (place_ok l hc)
  have hl8 := (checkToks_zero l hc).1
  have HCZ := Lib.hid hc; clear hc
  have HOK := Lib.hid hok; clear hok
  obtain ⟨A, c, rfl⟩ : ∃ A c, v = .slice A l.length c := by obtain ⟨A, c, h, _⟩ := HV.out; exact ⟨A, c, h⟩
  go_enter Tryd.func32, Tryd.ntmps32
  go_wp2_with (go_at_call 34; refine (rtcheck_any _ l _ HV.out HOK.out).mono ?_; rintro e w0 ⟨rfl, hb0⟩)
  have hz0 := hb0.size
  have HB0 := Lib.hid hb0; clear hb0
  go_loopw [5, 6] (fun s i wr => ∃ (n : Nat) (out : Bs), n ≤ l.length ∧ i = .int .i64 n ∧ s = .string (ofL out) ∧ out.length ≤ 2000 ∧ (out.length : Int) = endOf l n ∧ joinGo [] [] l = joinGo (lastText l n) out (l.drop n) ∧ Below w.heap.size w wr) (fun _ i _ => l.length - (intOf i).toNat)
  case atStart => exact ⟨0, [], Nat.zero_le _, rfl, rfl, by simp, by simp [endOf_zero], rfl, HB0.out⟩
  case round =>
    obtain ⟨n, out, hn, rfl, rfl, hout, hend, htx, hb⟩ := hrel
    have HT := Lib.hid htx; clear htx
    have HEND := Lib.hid hend; clear hend
    have HB := Lib.hid hb; clear hb
    have hbz := HB.out.size
    by_cases hlt : n < l.length
    · obtain ⟨b, o, rfl, hr⟩ := HV.out.rowA (by omega)
      have HR := Lib.hid (hr.below HB.out)
      have HR0 := Lib.hid hr; clear hr
      have ht := HR.out.text n hlt
      have ha := HR.out.at_ n hlt
      have hbl := HR.out.lt
      obtain ⟨hl1, hl2⟩ := HK.out n hlt
      obtain ⟨hp1, hp2, hp3⟩ := HPL.out n hlt
      have hp4 : (out.length : Int) ≤ (tg l n).at_ := by rw [HEND.out]; exact hp2
      clear hp2
      have HE1 := Lib.hid (endOf_succ l n)
      obtain ⟨m, hm⟩ : ∃ m : Nat, (tg l n).at_ = m := ⟨(tg l n).at_.toNat, by omega⟩
      rw [hm] at ha hp1 hp3 hp4
      have HM := Lib.hid hm; clear hm
      rcases Nat.eq_zero_or_pos n with h0 | h0
      · subst h0
        have HST := Lib.hid (joinGo_step l 0 hlt (lastText l 0) out (by rw [lastText_zero, needB_nil]; simp))
        go_wp2
        go_quiet (fail)
        go_wp2
        go_loopw [5] (fun s wx => ∃ q : Nat, s = .string (ofL (out ++ spaces q)) ∧ out.length + q ≤ m ∧ Below w.heap.size w wx) (fun s _ => m - (match s with | .string b => b.size | _ => 0))
        case atStart => exact ⟨0, by simp [spaces], by omega, bdrewN HB.out _⟩
        case round =>
          obtain ⟨q, rfl, hq, hbx⟩ := hrel
          have HBX := Lib.hid hbx; clear hbx
          have ha := (HR0.out.below HBX.out).at_ 0 hlt
          rw [HM.out] at ha
          have ht := (HR0.out.below HBX.out).text 0 hlt
          have hblx := (HR0.out.below HBX.out).lt
          by_cases hq2 : out.length + q < m
          · go_wp2
            exact ⟨⟨q + 1, by first | rfl | rw [blank_end], by omega, HBX.out⟩, by first | (rw [blank_end]; simp [ofL_size, spaces]; omega) | (simp [ofL_size, spaces]; omega)⟩
          · go_wp2
            refine ⟨⟨0 + 1, out ++ spaces q ++ (tg l 0).text, by omega, by go_num, by first | rfl | simp, by simp [spaces]; omega, by rw [HE1.out, HM.out]; simp [spaces]; omega, ?_, HBX.out⟩, by simp [intOf]; omega⟩
            rw [HT.out, HST.out, HM.out, Int.toNat_natCast, lastText_succ, show m - out.length = q by omega]
      · obtain ⟨k, hk⟩ : ∃ k, n = k + 1 := ⟨n - 1, by omega⟩
        have ht2 := HR.out.text k (by omega)
        obtain ⟨hk1, hk2⟩ := HK.out k (by omega)
        have hw2 : IntKind.i64.wrap ((n : Int) - 1) = (k : Int) := by rw [IntWalk.i64_in _ (by omega)]; omega
        have hb1 : (0 : Int) ≤ (n : Int) := by omega
        have hb2 : (n : Int) < (l.length : Int) := by omega
        have hb3 : (0 : Int) ≤ (k : Int) := by omega
        have hb4 : (k : Int) < (l.length : Int) := by omega
        have hb5 : (0 : Int) < (n : Int) := by omega
        have hb6 : k < l.length := by omega
        have HN := Lib.hid (show needB (lastText l n) (tg l n).text = glue (tg l k).text (tg l n).text by rw [hk, lastText_succ]; exact needB_of _ _ hk2)
        have HK1 := Lib.hid (HKK.out k (by omega))
        have HK2 := Lib.hid (HKK.out n hlt)
        clear hk
        by_cases heq : m = out.length
        · have heq1 : ((m : Int) == (out.length : Int)) = true := by simp [heq]
          have HEQ := Lib.hid heq; clear heq
          cases hg : glue (tg l k).text (tg l n).text
          · have HST := Lib.hid (joinGo_step l n hlt (lastText l n) out (by rw [HN.out, hg]; simp))
            go_wp2
            go_region_held3 (fun w' => w'.cell? ⟨b, o + k * 3 + 1, none⟩ = some (.string (ofL (tg l k).text)) ∧ w'.cell? ⟨b, o + n * 3 + 1, none⟩ = some (.string (ofL (tg l n).text)) ∧ w'.cell? ⟨b, o + n * 3 + 2, none⟩ = some (.int .i64 m))
              (first | go_keep | exact ⟨(hb1.cell (p := ⟨b, _, none⟩) hbl).trans ht2, (hb1.cell (p := ⟨b, _, none⟩) hbl).trans ht, (hb1.cell (p := ⟨b, _, none⟩) hbl).trans ha⟩)
              ((go_at_call 49; refine (rglue_any (tg l k).text (tg l n).text _ HK1.out HK2.out (by omega)).mono ?_; rintro e w1 ⟨rfl, hb1⟩))
            go_wp2
            go_loopw [5] (fun s wx => ∃ q : Nat, s = .string (ofL (out ++ spaces q)) ∧ out.length + q ≤ m ∧ Below w.heap.size w wx) (fun s _ => m - (match s with | .string b => b.size | _ => 0))
            case atStart => exact ⟨0, by simp [spaces], by omega, HB.out.drew.trans (hb1.mono hbz)⟩
            case round =>
              obtain ⟨q, rfl, hq, hbx⟩ := hrel
              have HBX := Lib.hid hbx; clear hbx
              have ha := (HR0.out.below HBX.out).at_ n hlt
              rw [HM.out] at ha
              have ht := (HR0.out.below HBX.out).text n hlt
              have hblx := (HR0.out.below HBX.out).lt
              by_cases hq2 : out.length + q < m
              · go_wp2
                exact ⟨⟨q + 1, by first | rfl | rw [blank_end], by omega, HBX.out⟩, by first | (rw [blank_end]; simp [ofL_size, spaces]; omega) | (simp [ofL_size, spaces]; omega)⟩
              · go_wp2
                refine ⟨⟨n + 1, out ++ spaces q ++ (tg l n).text, by omega, by go_num, by first | rfl | simp, by simp [spaces]; omega, by rw [HE1.out, HM.out]; simp [spaces]; omega, ?_, HBX.out⟩, by simp [intOf]; omega⟩
                rw [HT.out, HST.out, HM.out, Int.toNat_natCast, lastText_succ, show m - out.length = q by omega]
          · have HST := Lib.hid (joinGo_stop l n hlt (lastText l n) out (by rw [HM.out, HEQ.out]) (by rw [HN.out, hg]))
            go_wp2
            go_region_held3 (fun w' => w'.cell? ⟨b, o + k * 3 + 1, none⟩ = some (.string (ofL (tg l k).text)) ∧ w'.cell? ⟨b, o + n * 3 + 1, none⟩ = some (.string (ofL (tg l n).text)) ∧ w'.cell? ⟨b, o + n * 3 + 2, none⟩ = some (.int .i64 m))
              (first | go_keep | exact ⟨(hb1.cell (p := ⟨b, _, none⟩) hbl).trans ht2, (hb1.cell (p := ⟨b, _, none⟩) hbl).trans ht, (hb1.cell (p := ⟨b, _, none⟩) hbl).trans ha⟩)
              ((go_at_call 49; refine (rglue_any (tg l k).text (tg l n).text _ HK1.out HK2.out (by omega)).mono ?_; rintro e w1 ⟨rfl, hb1⟩))
            go_wp2
            go_ret2
            exact joinPost_of (joinOf_none l HCZ.out (HT.out.trans HST.out)) rfl (HB.out.drew.trans (hb1.mono hbz))
        · have heq1 : ((m : Int) == (out.length : Int)) = false := by simp; omega
          have HST := Lib.hid (joinGo_step l n hlt (lastText l n) out (by rw [HM.out]; intro h; omega))
          go_wp2
          go_quiet (fail)
          go_wp2
          go_loopw [5] (fun s wx => ∃ q : Nat, s = .string (ofL (out ++ spaces q)) ∧ out.length + q ≤ m ∧ Below w.heap.size w wx) (fun s _ => m - (match s with | .string b => b.size | _ => 0))
          case atStart => exact ⟨0, by simp [spaces], by omega, bdrewN HB.out _⟩
          case round =>
            obtain ⟨q, rfl, hq, hbx⟩ := hrel
            have HBX := Lib.hid hbx; clear hbx
            have ha := (HR0.out.below HBX.out).at_ n hlt
            rw [HM.out] at ha
            have ht := (HR0.out.below HBX.out).text n hlt
            have hblx := (HR0.out.below HBX.out).lt
            by_cases hq2 : out.length + q < m
            · go_wp2
              exact ⟨⟨q + 1, by first | rfl | rw [blank_end], by omega, HBX.out⟩, by first | (rw [blank_end]; simp [ofL_size, spaces]; omega) | (simp [ofL_size, spaces]; omega)⟩
            · go_wp2
              refine ⟨⟨n + 1, out ++ spaces q ++ (tg l n).text, by omega, by go_num, by first | rfl | simp, by simp [spaces]; omega, by rw [HE1.out, HM.out]; simp [spaces]; omega, ?_, HBX.out⟩, by simp [intOf]; omega⟩
              rw [HT.out, HST.out, HM.out, Int.toNat_natCast, lastText_succ, show m - out.length = q by omega]
    · go_wp2
      go_ret2
      exact joinPost_of (joinOf_some l HCZ.out out (HT.out.trans (joinGo_end l n (by omega) _ out))) rfl HB.out
end Go.Proofs.YtkckmnipidpdeaaDoor
