/-
  WALKS: mistref02.Text and mistref02.Join.
-/
import Derived.Test.YtkckmnipidpdeaaDoorWalkO
import Derived.Test.YtkckmnipidpdeaaDoorWalkR
import Derived.Test.YtkckmnipidpdeaaDoorWalkW
import Derived.Test.YtkckmnipidpdeaaDoorPlain9
namespace Go.Proofs.YtkckmnipidpdeaaDoor
open Go.RowKit Mist
attribute [local go_sem] ofL_extract ofL_size ofL_get ofL_bytes ofL_append
theorem blank_of (a b : Bs) : ofL a ++ ⟨#[32]⟩ ++ ofL b = ofL (a ++ spaces 1 ++ b) := by
  rw [show (ByteArray.mk #[32]) = ofL [32] from rfl, ofL_append, ofL_append]; rfl
theorem textPost_of {l : List Tok} {s : Bs} {x : Int} {w w' : World} (h : textOf l = s) (hx : x = checkToks l) (hb : Below w.heap.size w w') : TextPost l w (.returned (.tuple #[.string (ofL s), .int .i64 x])) w' := by
  subst hx; exact ⟨by rw [h], hb⟩
set_option maxRecDepth 100000 in
set_option maxHeartbeats 4000000 in
theorem rtext_any (v : Value) (l : List Tok) (w : World) (hv : Toks w v l) (hok : TokOk l) :
    Calls Tryd.prog 33 #[v] w (TextPost l w) := by
  have HV := Lib.hid hv; clear hv
  by_cases hc : checkToks l = 0
  case neg =>
    have hc' : ((checkToks l : Int) != 0) = true := by simp; omega
    have HC := Lib.hid (show textOf l = [] by unfold textOf; rw [if_neg hc]); clear hc
    go_enter Tryd.func33, Tryd.ntmps33
    go_wp2_with (go_at_call 34; refine (rtcheck_any v l _ HV.out hok).mono ?_; rintro e w' ⟨rfl, hb⟩)
    go_ret2
    exact textPost_of HC.out rfl hb
  have hc' : ((checkToks l : Int) != 0) = false := by simp; omega
  have HC := Lib.hid (show textOf l = textGo [] [] l by unfold textOf; rw [if_pos hc])
  have HK := Lib.hid (checkToks_len l hc)
  have HKK := Lib.hid (kind_at l hc)
  have hl8 := (checkToks_zero l hc).1
  have HCZ := Lib.hid hc; clear hc
  have HOK := Lib.hid hok; clear hok
  obtain ⟨A, c, rfl⟩ : ∃ A c, v = .slice A l.length c := by obtain ⟨A, c, h, _⟩ := HV.out; exact ⟨A, c, h⟩
  go_enter Tryd.func33, Tryd.ntmps33
  go_wp2_with (go_at_call 34; refine (rtcheck_any _ l _ HV.out HOK.out).mono ?_; rintro e w0 ⟨rfl, hb0⟩)
  have hz0 := hb0.size
  have HB0 := Lib.hid hb0; clear hb0
  go_loopw [5, 6] (fun s i wr => ∃ (n : Nat) (out : Bs), n ≤ l.length ∧ i = .int .i64 n ∧ s = .string (ofL out) ∧ out.length ≤ n * 13 ∧ textOf l = textGo (lastText l n) out (l.drop n) ∧ Below w.heap.size w wr) (fun _ i _ => l.length - (intOf i).toNat)
  case atStart => exact ⟨0, [], Nat.zero_le _, rfl, rfl, by simp, HC.out, HB0.out⟩
  case round =>
    obtain ⟨n, out, hn, rfl, rfl, hout, htx, hb⟩ := hrel
    have HT := Lib.hid htx; clear htx
    have HB := Lib.hid hb; clear hb
    have hbz := HB.out.size
    by_cases hlt : n < l.length
    · obtain ⟨b, o, rfl, hr⟩ := HV.out.rowA (by omega)
      have HR := Lib.hid (hr.below HB.out); clear hr
      have ht := HR.out.text n hlt
      have hbl := HR.out.lt
      obtain ⟨hl1, hl2⟩ := HK.out n hlt
      have HST := Lib.hid (textGo_step l n hlt (lastText l n) out)
      rcases Nat.eq_zero_or_pos n with h0 | h0
      · subst h0
        have HG := Lib.hid (show gapN (lastText l 0) (tg l 0).text = 0 by rfl)
        go_wp2
        go_quiet (fail)
        go_wp2
        exact ⟨⟨0 + 1, out ++ spaces 0 ++ (tg l 0).text, by omega, by go_num, by simp [spaces], by simp [spaces]; omega, by rw [HT.out, HST.out, HG.out, lastText_succ], bdrewN HB.out _⟩, by simp [intOf]; omega⟩
      · obtain ⟨k, hk⟩ : ∃ k, n = k + 1 := ⟨n - 1, by omega⟩
        have ht2 := HR.out.text k (by omega)
        obtain ⟨hk1, hk2⟩ := HK.out k (by omega)
        have hw2 : IntKind.i64.wrap ((n : Int) - 1) = (k : Int) := by rw [IntWalk.i64_in _ (by omega)]; omega
        have hb1 : (0 : Int) ≤ (n : Int) := by omega
        have hb2 : (n : Int) < (l.length : Int) := by omega
        have hb3 : (0 : Int) ≤ (k : Int) := by omega
        have hb4 : (k : Int) < (l.length : Int) := by omega
        have hb5 : (0 : Int) < (n : Int) := by omega
        have hb6 : k < l.length := by omega
        have HN := Lib.hid (show needB (lastText l n) (tg l n).text = glue (tg l k).text (tg l n).text by rw [hk, lastText_succ]; exact needB_of _ _ hk2)
        have HK1 := Lib.hid (HKK.out k (by omega))
        have HK2 := Lib.hid (HKK.out n hlt)
        clear hk
        cases hg : glue (tg l k).text (tg l n).text
        · have HG := Lib.hid (show gapN (lastText l n) (tg l n).text = 0 by unfold gapN; rw [HN.out, hg]; rfl)
          go_wp2
          go_region_held3 (fun w' => w'.cell? ⟨b, o + k * 3 + 1, none⟩ = some (.string (ofL (tg l k).text)) ∧ w'.cell? ⟨b, o + n * 3 + 1, none⟩ = some (.string (ofL (tg l n).text)))
            (first | go_keep | exact ⟨(hb1.cell (p := ⟨b, _, none⟩) hbl).trans ht2, (hb1.cell (p := ⟨b, _, none⟩) hbl).trans ht⟩)
            ((go_at_call 49; refine (rglue_any (tg l k).text (tg l n).text _ HK1.out HK2.out (by omega)).mono ?_; rintro e w1 ⟨rfl, hb1⟩))
          go_wp2
          exact ⟨⟨n + 1, out ++ spaces 0 ++ (tg l n).text, by omega, by go_num, by first | rfl | rw [blank_of] | simp [spaces], by simp [spaces]; omega, by rw [HT.out, HST.out, HG.out, lastText_succ], HB.out.drew.trans (hb1.mono hbz)⟩, by simp [intOf]; omega⟩
        · have HG := Lib.hid (show gapN (lastText l n) (tg l n).text = 1 by unfold gapN; rw [HN.out, hg]; rfl)
          go_wp2
          go_region_held3 (fun w' => w'.cell? ⟨b, o + k * 3 + 1, none⟩ = some (.string (ofL (tg l k).text)) ∧ w'.cell? ⟨b, o + n * 3 + 1, none⟩ = some (.string (ofL (tg l n).text)))
            (first | go_keep | exact ⟨(hb1.cell (p := ⟨b, _, none⟩) hbl).trans ht2, (hb1.cell (p := ⟨b, _, none⟩) hbl).trans ht⟩)
            ((go_at_call 49; refine (rglue_any (tg l k).text (tg l n).text _ HK1.out HK2.out (by omega)).mono ?_; rintro e w1 ⟨rfl, hb1⟩))
          go_wp2
          exact ⟨⟨n + 1, out ++ spaces 1 ++ (tg l n).text, by omega, by go_num, by first | rfl | rw [blank_of] | simp [spaces], by simp [spaces]; omega, by rw [HT.out, HST.out, HG.out, lastText_succ], HB.out.drew.trans (hb1.mono hbz)⟩, by simp [intOf]; omega⟩
    · go_wp2
      go_ret2
      have e : textOf l = out := HT.out.trans (textGo_end l n (by omega) _ out)
      exact textPost_of e (by rw [HCZ.out]; rfl) HB.out
end Go.Proofs.YtkckmnipidpdeaaDoor
