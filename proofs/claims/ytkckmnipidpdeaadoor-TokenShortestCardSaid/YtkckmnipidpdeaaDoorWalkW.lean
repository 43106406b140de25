/-
  WALKS: mistref02.Check.
-/
import Derived.Test.YtkckmnipidpdeaaDoorWalkK
namespace Go.Proofs.YtkckmnipidpdeaaDoor
open Go.RowKit Mist
attribute [local go_sem] ofL_extract ofL_size ofL_get ofL_bytes ofL_append
theorem fitsB_no (t b : Tok) (h : kind t.text = 0 ∨ kind t.text ≠ t.kind ∨ t.at_ < 0 ∨ t.at_ - b.at_ < (b.text.length : Int)) : fitsB t b = false := by
  rw [Bool.eq_false_iff]
  intro hf
  unfold fitsB at hf
  simp only [Bool.and_eq_true, decide_eq_true_eq, bne_iff_ne, beq_iff_eq] at hf
  rcases h with h | h | h | h
  · exact hf.1.1.1 h
  · exact h hf.1.1.2
  · omega
  · omega
theorem fitsB_yes (t b : Tok) (h1 : kind t.text ≠ 0) (h2 : kind t.text = t.kind) (h3 : ¬ t.at_ < 0) (h4 : ¬ t.at_ - b.at_ < (b.text.length : Int)) : fitsB t b = true := by
  unfold fitsB
  simp only [Bool.and_eq_true, decide_eq_true_eq, bne_iff_ne, beq_iff_eq]
  exact ⟨⟨⟨h1, h2⟩, by omega⟩, by omega⟩
theorem kindErr_bad (s : Bs) (h : kind s = 0) : kindErr s = 4 := by unfold kindErr; rw [if_pos h]
theorem kindErr_zero (s : Bs) (h : kind s ≠ 0) : kindErr s = 0 := by
  unfold kindErr; simp [h]
def ChkPost (l : List Tok) (w : World) (e : Ending) (w' : World) : Prop := e = .returned (.int .i64 (checkToks l)) ∧ Below w.heap.size w w'
theorem chkPost_of {l : List Tok} {k : Nat} {x : Int} {w w' : World} (h : checkToks l = k) (hx : x = k) (hb : Below w.heap.size w w') : ChkPost l w (.returned (.int .i64 x)) w' := ⟨by rw [h, hx], hb⟩
set_option maxRecDepth 100000 in
set_option maxHeartbeats 4000000 in
theorem rtcheck_any (v : Value) (l : List Tok) (w : World) (hv : Toks w v l) (hok : TokOk l) :
    Calls Tryd.prog 34 #[v] w (ChkPost l w) := by
  have HV := Lib.hid hv
  have HOK := Lib.hid hok; clear hok
  obtain ⟨A, c, rfl, _, _⟩ := hv
  by_cases h8 : 800 < l.length
  · have HX := Lib.hid (checkToks_long l h8)
    go_enter Tryd.func34, Tryd.ntmps34
    go_wp2
    go_ret
    exact chkPost_of HX.out rfl (Below.refl _ _)
  have hl8 : l.length ≤ 800 := by omega
  have H8 := Lib.hid h8; clear h8
  go_enter Tryd.func34, Tryd.ntmps34
  go_wp2
  go_loopw [3] (fun i wr => ∃ n : Nat, n ≤ l.length ∧ i = .int .i64 n ∧ fitsAll tok0 (l.take n) = true ∧ Below w.heap.size w wr) (fun i _ => l.length - (intOf i).toNat)
  case atStart => exact ⟨0, Nat.zero_le _, rfl, by simp [fitsAll], Below.refl _ _⟩
  case round =>
    obtain ⟨n, hn, rfl, hfa, hb⟩ := hrel
    have HA := Lib.hid hfa; clear hfa
    have HB := Lib.hid hb; clear hb
    by_cases hlt : n < l.length
    · obtain ⟨b, o, rfl, hr⟩ := HV.out.rowA (by omega)
      have HR := Lib.hid (hr.below HB.out); clear hr
      have ht := HR.out.text n hlt
      have hmem := HOK.out _ (tg_mem l n hlt)
      obtain ⟨hm1, hm2⟩ := hmem
      by_cases h1 : kind (tg l n).text = 0
      · have HN := Lib.hid (checkToks_form l H8.out (fitsAll_no l n hlt (fitsB_no _ _ (.inl h1))))
        have h1' : ((kindErr (tg l n).text : Int) != 0) = true := by rw [kindErr_bad _ h1]; rfl
        have h1'' : ((kindErr (tg l n).text : Int) == 0) = false := by rw [kindErr_bad _ h1]; rfl
        clear h1
        go_wp2_with (go_at_call 39; refine (rkind_any _ _ hm1).mono ?_; rintro e w' ⟨rfl, hb'⟩; have hsz' := hb'.size; have hk := (HR.out.below hb').kind n hlt; have ht := (HR.out.below hb').text n hlt; have ha := (HR.out.below hb').at_ n hlt)
        go_quiet (fail)
        go_wp2
        go_ret
        exact chkPost_of HN.out rfl (bdrewN (HB.out.trans (hb'.mono HB.out.size)) _)
      have h1' : ((kindErr (tg l n).text : Int) != 0) = false := by rw [kindErr_zero _ h1]; rfl
      by_cases h2 : kind (tg l n).text = (tg l n).kind
      case neg =>
        have HN := Lib.hid (checkToks_form l H8.out (fitsAll_no l n hlt (fitsB_no _ _ (.inr (.inl h2)))))
        have h2' : ((kind (tg l n).text : Int) != ((tg l n).kind : Int)) = true := by simp; omega
        have h2'' : ((kind (tg l n).text : Int) == ((tg l n).kind : Int)) = false := by simp; omega
        clear h1 h2
        go_wp2_with (go_at_call 39; refine (rkind_any _ _ hm1).mono ?_; rintro e w' ⟨rfl, hb'⟩; have hsz' := hb'.size; have hk := (HR.out.below hb').kind n hlt; have ht := (HR.out.below hb').text n hlt; have ha := (HR.out.below hb').at_ n hlt)
        go_quiet (fail)
        go_wp2
        go_ret
        exact chkPost_of HN.out rfl (bdrewN (HB.out.trans (hb'.mono HB.out.size)) _)
      have h2' : ((kind (tg l n).text : Int) != ((tg l n).kind : Int)) = false := by simp; omega
      by_cases h3 : (tg l n).at_ < 0
      · have HN := Lib.hid (checkToks_form l H8.out (fitsAll_no l n hlt (fitsB_no _ _ (.inr (.inr (.inl h3))))))
        have h3' : decide ((tg l n).at_ < 0) = true := by simpa using h3
        clear h1 h2
        go_wp2_with (go_at_call 39; refine (rkind_any _ _ hm1).mono ?_; rintro e w' ⟨rfl, hb'⟩; have hsz' := hb'.size; have hk := (HR.out.below hb').kind n hlt; have ht := (HR.out.below hb').text n hlt; have ha := (HR.out.below hb').at_ n hlt)
        go_quiet (fail)
        go_wp2
        go_ret
        exact chkPost_of HN.out rfl (bdrewN (HB.out.trans (hb'.mono HB.out.size)) _)
      have h3' : decide ((tg l n).at_ < 0) = false := by simpa using h3
      rcases lastTok_cases l n hn with ⟨e, rfl⟩ | ⟨k, rfl, hk0, e⟩
      · have HN := Lib.hid (show fitsAll tok0 (l.take (0 + 1)) = true by rw [fitsAll_take l 0 hlt HA.out, e]; exact fitsB_yes _ _ h1 h2 h3 (by simp [tok0]; omega))
        clear h1 h2 e
        go_wp2_with (go_at_call 39; refine (rkind_any _ _ hm1).mono ?_; rintro e w' ⟨rfl, hb'⟩; have hsz' := hb'.size; have hk := (HR.out.below hb').kind 0 hlt; have ht := (HR.out.below hb').text 0 hlt; have ha := (HR.out.below hb').at_ 0 hlt; simp only [Nat.zero_mul, Nat.add_zero] at hk ht ha)
        go_quiet (fail)
        go_wp2
        exact ⟨⟨0 + 1, by omega, by go_num, HN.out, bdrewN (HB.out.trans (hb'.mono HB.out.size)) _⟩, by simp [intOf]; omega⟩
      · have hp := last_ok l (k + 1) hn HOK.out HA.out
        rw [e] at hp
        obtain ⟨hp1, hp2, hp3⟩ := hp
        have hw1 : IntKind.i64.wrap ((tg l (k + 1)).at_ - (tg l k).at_) = (tg l (k + 1)).at_ - (tg l k).at_ := IntWalk.i64_in _ (by unfold inI64 at *; omega)
        have hw2 : IntKind.i64.wrap (((k + 1 : Nat) : Int) - 1) = (k : Int) := by rw [IntWalk.i64_in _ (by omega)]; omega
        by_cases h4 : (tg l (k + 1)).at_ - (tg l k).at_ < ((tg l k).text.length : Int)
        · have HN := Lib.hid (checkToks_form l H8.out (fitsAll_no l (k + 1) hlt (fitsB_no _ _ (.inr (.inr (.inr (by rw [e]; exact h4)))))))
          have h4' : decide ((tg l (k + 1)).at_ - (tg l k).at_ < ((tg l k).text.length : Int)) = true := by simpa using h4
          clear h1 h2 e
          go_wp2_with (go_at_call 39; refine (rkind_any _ _ hm1).mono ?_; rintro e w' ⟨rfl, hb'⟩; have hsz' := hb'.size; have hk := (HR.out.below hb').kind (k + 1) hlt; have ht := (HR.out.below hb').text (k + 1) hlt; have ha := (HR.out.below hb').at_ (k + 1) hlt; have ht2 := (HR.out.below hb').text k hk0; have ha2 := (HR.out.below hb').at_ k hk0)
          go_quiet (fail)
          go_wp2
          go_ret
          exact chkPost_of HN.out rfl (bdrewN (HB.out.trans (hb'.mono HB.out.size)) _)
        · have HN := Lib.hid (show fitsAll tok0 (l.take (k + 1 + 1)) = true by rw [fitsAll_take l (k + 1) hlt HA.out, e]; exact fitsB_yes _ _ h1 h2 h3 h4)
          have h4' : decide ((tg l (k + 1)).at_ - (tg l k).at_ < ((tg l k).text.length : Int)) = false := by simpa using h4
          clear h1 h2 e
          go_wp2_with (go_at_call 39; refine (rkind_any _ _ hm1).mono ?_; rintro e w' ⟨rfl, hb'⟩; have hsz' := hb'.size; have hk := (HR.out.below hb').kind (k + 1) hlt; have ht := (HR.out.below hb').text (k + 1) hlt; have ha := (HR.out.below hb').at_ (k + 1) hlt; have ht2 := (HR.out.below hb').text k hk0; have ha2 := (HR.out.below hb').at_ k hk0)
          go_quiet (fail)
          go_wp2
          exact ⟨⟨k + 1 + 1, by omega, by go_num, HN.out, bdrewN (HB.out.trans (hb'.mono HB.out.size)) _⟩, by simp [intOf]; omega⟩
    · have e : l.take n = l := List.take_of_length_le (by omega)
      have hlk := last_ok l n hn HOK.out HA.out
      have ha2 := HA.out
      rw [e] at hlk ha2
      have HA2 := Lib.hid ha2; clear ha2
      obtain ⟨hp1, hp2, hp3⟩ := hlk
      have HBN := Lib.hid hp1
      rcases lastTok_cases l l.length (Nat.le_refl _) with ⟨e2, h0⟩ | ⟨k, h0, hk0, e2⟩
      · have HN := Lib.hid (checkToks_ok l H8.out HA2.out (by rw [List.take_length] at e2; rw [e2]; simp [tok0]))
        clear e2 e
        have hn0 : n = 0 := by omega
        subst hn0
        rw [h0]
        go_wp2
        go_quiet (fail)
        go_wp2
        go_ret
        exact chkPost_of HN.out rfl (bdrewN HB.out _)
      · rw [List.take_length] at e2
        rw [e2] at hp1 hp2 hp3
        obtain ⟨b, o, rfl, hr⟩ := HV.out.rowA (by omega)
        have ht := (hr.below HB.out).text k hk0
        have ha := (hr.below HB.out).at_ k hk0
        have hbl := (hr.below HB.out).lt
        clear hr
        have hw2 : IntKind.i64.wrap ((l.length : Int) - 1) = (k : Int) := by rw [IntWalk.i64_in _ (by omega)]; omega
        have hw1 : IntKind.i64.wrap (2000 - ((tg l k).text.length : Int)) = 2000 - ((tg l k).text.length : Int) := IntWalk.i64_in _ (by omega)
        by_cases h4 : 2000 - ((tg l k).text.length : Int) < (tg l k).at_
        · have HN := Lib.hid (checkToks_far l H8.out HA2.out (by rw [e2]; exact h4))
          have h4' : decide (2000 - ((tg l k).text.length : Int) < (tg l k).at_) = true := by simpa using h4
          clear e2 e
          go_wp2
          go_quiet (fail)
          go_wp2
          go_ret
          exact chkPost_of HN.out rfl (bdrewN HB.out _)
        · have HN := Lib.hid (checkToks_ok l H8.out HA2.out (by rw [e2]; exact h4))
          have h4' : decide (2000 - ((tg l k).text.length : Int) < (tg l k).at_) = false := by simpa using h4
          clear e2 e
          go_wp2
          go_quiet (fail)
          go_wp2
          go_ret
          exact chkPost_of HN.out rfl (bdrewN HB.out _)
end Go.Proofs.YtkckmnipidpdeaaDoor
