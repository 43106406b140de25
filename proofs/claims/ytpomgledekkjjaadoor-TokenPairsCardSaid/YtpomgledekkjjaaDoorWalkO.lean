/-
  WALKS, fifteenth part: token.Text.
-/
import Derived.Test.YtpomgledekkjjaaDoorWalkN
namespace Go.Proofs.YtpomgledekkjjaaDoor
open Go.RowKit Mist
attribute [local go_sem] ofL_extract ofL_size ofL_get ofL_bytes ofL_append
theorem Bld.new (T B : Nat) (rest : List Value) (w : World) (hB : B ≤ w.heap.size) : Bld T B w.heap.size rest [] (w.alloc (.cells (.pointer none :: .slice none 0 0 :: rest).toArray T)) :=
  Or.inl ⟨hB, .slice none 0 0, heap_alloc_new w _, World.ownsRow_nil _ _ _ _, by simp [Value.ownBlock]⟩
def TextPost (l : List Tok) (w : World) (e : Ending) (w' : World) : Prop := e = .returned (.tuple #[.string (ofL (textOf l)), .int .i64 (checkToks l)]) ∧ Below w.heap.size w w'
set_option maxRecDepth 100000 in
set_option maxHeartbeats 3200000 in
theorem text_any (v : Value) (l : List Tok) (w : World) (hE : Env w) (hv : Toks w v l) (hok : TokOk l) :
    Calls Tryd.prog 12 #[v] w (TextPost l w) := by
  have HE := Lib.hid hE; clear hE
  have HV := Lib.hid hv; clear hv
  by_cases hc : checkToks l = 0
  case neg =>
    have hc' : ((checkToks l : Int) != 0) = true := by simpa using hc
    have HC := Lib.hid (show textOf l = [] by unfold textOf; rw [if_neg hc]); clear hc
    go_enter Tryd.func12, Tryd.ntmps12
    go_wp2_with (go_at_call 8; refine (tcheck_any v l _ HE.out HV.out hok).mono ?_; rintro e w' ⟨rfl, hb⟩)
    go_ret2
    exact ⟨by rw [HC.out]; rfl, hb⟩
  have hc' : ((checkToks l : Int) != 0) = false := by simp [hc]
  have HC := Lib.hid (show textOf l = textGo [] [] l by unfold textOf; rw [if_pos hc])
  have HK := Lib.hid (checkToks_len l hc)
  have hl8 := (checkToks_zero l hc).1
  have HCZ := Lib.hid hc; clear hc
  have HOK := Lib.hid hok; clear hok
  obtain ⟨A, c, rfl⟩ : ∃ A c, v = .slice A l.length c := by obtain ⟨A, c, h, _⟩ := HV.out; exact ⟨A, c, h⟩
  go_enter Tryd.func12, Tryd.ntmps12
  go_wp2_with (go_at_call 8; refine (tcheck_any _ l _ HE.out HV.out HOK.out).mono ?_; rintro e w0 ⟨rfl, hb0⟩)
  have hz0 := hb0.size
  have HB0 := Lib.hid hb0; clear hb0
  go_loopw [16] (fun i wr => ∃ (n : Nat) (last out : Bs), n ≤ l.length ∧ i = .int .i64 n ∧ out.length ≤ n * 13 ∧ last.length ≤ 12 ∧ textOf l = textGo last out (l.drop n) ∧ Bld 58 w.heap.size w0.heap.size [.string (ofL last)] out wr ∧ Below w.heap.size w wr) (fun i _ => l.length - (intOf i).toNat)
  case atStart => exact ⟨0, [], [], Nat.zero_le _, rfl, by simp, by simp, HC.out, Bld.new _ _ [.string (ofL [])] _ hz0, HB0.out.alloc hz0 _⟩
  case round =>
    obtain ⟨n, last, out, hn, rfl, hout, hlast, htx, hbl, hb⟩ := hrel
    have HT := Lib.hid htx; clear htx
    have HBL := Lib.hid hbl; clear hbl
    have HB := Lib.hid hb; clear hb
    by_cases hlt : n < l.length
    · obtain ⟨b, o, rfl, hr⟩ := HV.out.rowA (by omega)
      have hk := (hr.below HB.out).kind n hlt
      have ht := (hr.below HB.out).text n hlt
      have ha := (hr.below HB.out).at_ n hlt
      have hbs := hr.lt
      have hbz := HB.out.size
      clear hr
      have hlen := HK.out n hlt
      obtain ⟨hl1, hl2⟩ := hlen
      have hstep := textGo_step l n hlt last out
      have HST := Lib.hid hstep; clear hstep
      have HEW := Lib.hid ((HE.out.below HB.out).alloc (.cells #[.int .u8 (tg l n).kind, .string (ofL (tg l n).text), .int .i64 (tg l n).at_] 26))
      have HBW := Lib.hid (HBL.out.below ((Below.refl wr.heap.size wr).alloc (Nat.le_refl _) (.cells #[.int .u8 (tg l n).kind, .string (ofL (tg l n).text), .int .i64 (tg l n).at_] 26)))
      cases hnd : needB last (tg l n).text
      · have HG := Lib.hid (show gapN last (tg l n).text = 0 by simp [gapN, hnd])
        go_wp2_with (first
          | (go_at_call 21; refine (put_any w.heap.size _ 0 _ out (tg l n) _ (HBW.out.below hb1) (by omega) (by omega)).mono ?_; rintro e w2 ⟨rfl, hB2, hb2⟩)
          | (go_at_call 20; refine (needs_any _ _ _ last out (tg l n) _ HEW.out HBW.out (by omega)).mono ?_; rintro e w1 ⟨rfl, hb1⟩; obtain ⟨hcell, hfro⟩ := bcell hb1; have hz1 := hb1.size; simp only [World.size_alloc] at hz1))
        have hbw : Below w.heap.size w w1 := (HB.out.alloc hbz _).trans (hb1.mono (by simp; omega))
        exact ⟨⟨n + 1, (tg l n).text, out ++ spaces 0 ++ (tg l n).text, by omega, by go_num, by simp [spaces]; omega, hl1, by rw [HT.out, HST.out, HG.out], hB2, hbw.trans hb2⟩, by simp [intOf]; omega⟩
      · have HG := Lib.hid (show gapN last (tg l n).text = 1 by simp [gapN, hnd])
        go_wp2_with (first
          | (go_at_call 21; refine (put_any w.heap.size _ 1 _ out (tg l n) _ (HBW.out.below hb1) (by omega) (by omega)).mono ?_; rintro e w2 ⟨rfl, hB2, hb2⟩)
          | (go_at_call 20; refine (needs_any _ _ _ last out (tg l n) _ HEW.out HBW.out (by omega)).mono ?_; rintro e w1 ⟨rfl, hb1⟩; obtain ⟨hcell, hfro⟩ := bcell hb1; have hz1 := hb1.size; simp only [World.size_alloc] at hz1))
        have hbw : Below w.heap.size w w1 := (HB.out.alloc hbz _).trans (hb1.mono (by simp; omega))
        exact ⟨⟨n + 1, (tg l n).text, out ++ spaces 1 ++ (tg l n).text, by omega, by go_num, by simp [spaces]; omega, hl1, by rw [HT.out, HST.out, HG.out], hB2, hbw.trans hb2⟩, by simp [intOf]; omega⟩
    · go_wp2_with (go_at_call 22; refine (string_any _ _ _ _ out _ HBL.out HB.out.size).mono ?_; rintro e w2 ⟨rfl, hb2⟩)
      go_ret2
      have e : textOf l = out := HT.out.trans (textGo_end l n (by omega) last out)
      exact ⟨by rw [e, HCZ.out]; rfl, HB.out.trans hb2⟩
end Go.Proofs.YtpomgledekkjjaaDoor
