/-
  WALKS, eleventh part: token.fits, token.Check.
-/
import Derived.Test.YtpomgledekkjjaaDoorWalkJ
import Derived.Test.YtpomgledekkjjaaDoorPlain3
namespace Go.Proofs.YtpomgledekkjjaaDoor
open Go.RowKit Mist
attribute [local go_sem] ofL_extract ofL_size ofL_get ofL_bytes ofL_append
theorem fits_eq (t b : Tok) : fitsB t b = (((kindErr t.text : Int) == 0) && ((kind t.text : Int) == (t.kind : Int)) && decide (0 ≤ t.at_) && decide ((b.text.length : Int) ≤ t.at_ - b.at_)) := by
  unfold fitsB
  rw [kindErr_eq]
  congr 3
  · rw [Bool.eq_iff_iff]; simp
  · rw [Bool.eq_iff_iff]; simp; omega
theorem bcell {W w1 : World} (hb : Below W.heap.size W w1) : (∀ b o, b < W.heap.size → w1.cell? ⟨b, o, none⟩ = W.cell? ⟨b, o, none⟩) ∧ (∀ b o, b < W.heap.size → w1.frozen? ⟨b, o, none⟩ = W.frozen? ⟨b, o, none⟩) :=
  ⟨fun b o h => hb.cell (p := ⟨b, o, none⟩) h, fun b o h => hb.frozen (p := ⟨b, o, none⟩) h⟩
set_option maxHeartbeats 1000000 in
theorem fits_any (t b : Tok) (w : World) (hE : Env w) (hl : t.text.length ≤ 100000000) (hb0 : 0 ≤ b.at_) (ht : inI64 t.at_) (hb1 : inI64 b.at_) (hbl : b.text.length ≤ 100000000) :
    Calls Tryd.prog 14 #[.agg #[.int .u8 t.kind, .string (ofL t.text), .int .i64 t.at_], .agg #[.int .u8 b.kind, .string (ofL b.text), .int .i64 b.at_]] w fun e w' =>
      e = .returned (.bool (fitsB t b)) ∧ Below w.heap.size w w' := by
  have HE := Lib.hid hE; clear hE
  have HF := Lib.hid (fits_eq t b)
  obtain ⟨tk, tt, ta⟩ := t
  obtain ⟨bk, bt, ba⟩ := b
  simp only at *
  have HT := Lib.hid ht; clear ht
  have HB1 := Lib.hid hb1; clear hb1
  have hsub : 0 ≤ ta → wrap64 (ta - ba) = ta - ba := by
    intro h; have := HT.out; have := HB1.out; unfold inI64 at *; unfold wrap64; omega
  have HS := Lib.hid hsub; clear hsub
  cases h1 : ((kindErr tt : Int) == 0)
  · have HF2 := Lib.hid (show fitsB ⟨tk, tt, ta⟩ ⟨bk, bt, ba⟩ = false by rw [HF.out, h1]; simp)
    go_enter Tryd.func14, Tryd.ntmps14
    go_wp2_with (go_at_call 18; refine (kind_any tt _ ((HE.out.alloc _).alloc _) hl).mono ?_; rintro e w' ⟨rfl, hb⟩)
    go_ret
    exact ⟨ret_bool HF2.out.symm, ((Below.refl _ _).alloc (Nat.le_refl _) _).alloc (by simp) _ |>.trans (hb.mono (by simp; omega))⟩
  · rw [h1, Bool.true_and] at HF
    have hcs : (((kind tt : Int) == (tk : Int)) = true ∧ 0 ≤ ta ∧ wrap64 (ta - ba) = ta - ba ∧ (bt.length : Int) ≤ ta - ba ∧ fitsB ⟨tk, tt, ta⟩ ⟨bk, bt, ba⟩ = true) ∨
        (((kind tt : Int) == (tk : Int)) = true ∧ 0 ≤ ta ∧ wrap64 (ta - ba) = ta - ba ∧ ¬ (bt.length : Int) ≤ ta - ba ∧ fitsB ⟨tk, tt, ta⟩ ⟨bk, bt, ba⟩ = false) ∨
        (((kind tt : Int) == (tk : Int)) = true ∧ ¬ 0 ≤ ta ∧ fitsB ⟨tk, tt, ta⟩ ⟨bk, bt, ba⟩ = false) ∨
        (((kind tt : Int) == (tk : Int)) = false ∧ fitsB ⟨tk, tt, ta⟩ ⟨bk, bt, ba⟩ = false) := by
      cases h2 : ((kind tt : Int) == (tk : Int))
      · exact .inr (.inr (.inr ⟨rfl, by rw [HF.out, h2]; simp⟩))
      · by_cases h3 : 0 ≤ ta
        · by_cases h4 : (bt.length : Int) ≤ ta - ba
          · exact .inl ⟨rfl, h3, HS.out h3, h4, by rw [HF.out, h2]; simp [h3, h4]⟩
          · exact .inr (.inl ⟨rfl, h3, HS.out h3, h4, by rw [HF.out, h2]; simp [h3, h4]⟩)
        · exact .inr (.inr (.inl ⟨rfl, h3, by rw [HF.out, h2]; simp [h3]⟩))
    rcases hcs with ⟨h2, h3, hs3, h4, hf⟩ | ⟨h2, h3, hs3, h4, hf⟩ | ⟨h2, h3, hf⟩ | ⟨h2, hf⟩
    all_goals
      have HF2 := Lib.hid hf
      clear HF HS hf
      go_enter Tryd.func14, Tryd.ntmps14
      go_wp2_with (go_at_call 18; refine (kind_any tt _ ((HE.out.alloc _).alloc _) hl).mono ?_; rintro e w' ⟨rfl, hb⟩; obtain ⟨hcell, hfro⟩ := bcell hb)
      go_ret
      exact ⟨ret_bool (by have := HF2.out; first | exact this.symm | (rw [this]; simp; omega)), ((Below.refl _ _).alloc (Nat.le_refl _) _).alloc (by simp) _ |>.trans (hb.mono (by simp; omega))⟩
/-- A token that lies in a variable of the call's own. -/
structure TokVar (w : World) (g : Nat) (t : Tok) : Prop where
  c0 : w.cell? ⟨g, 0, none⟩ = some (.int .u8 t.kind)
  c1 : w.cell? ⟨g, 1, none⟩ = some (.string (ofL t.text))
  c2 : w.cell? ⟨g, 2, none⟩ = some (.int .i64 t.at_)
  f0 : w.frozen? ⟨g, 0, none⟩ = false
  f1 : w.frozen? ⟨g, 1, none⟩ = false
  f2 : w.frozen? ⟨g, 2, none⟩ = false
theorem TokVar.lt {w : World} {g : Nat} {t : Tok} (h : TokVar w g t) : g < w.heap.size := by
  have := World.block_lt_of_cell? w _ h.c0; exact this
theorem TokVar.below {w w' : World} {g : Nat} {t : Tok} (h : TokVar w g t) (hb : Below w.heap.size w w') : TokVar w' g t :=
  ⟨(hb.cell (p := ⟨g, _, none⟩) h.lt).trans h.c0, (hb.cell (p := ⟨g, _, none⟩) h.lt).trans h.c1, (hb.cell (p := ⟨g, _, none⟩) h.lt).trans h.c2,
   (hb.frozen (p := ⟨g, _, none⟩) h.lt).trans h.f0, (hb.frozen (p := ⟨g, _, none⟩) h.lt).trans h.f1, (hb.frozen (p := ⟨g, _, none⟩) h.lt).trans h.f2⟩
theorem TokVar.new (w : World) (t : Tok) (T : TypeId) : TokVar (w.alloc (.cells #[.int .u8 t.kind, .string (ofL t.text), .int .i64 t.at_] T)) w.heap.size t := by
  have hn := heap_alloc_new w (.cells #[.int .u8 t.kind, .string (ofL t.text), .int .i64 t.at_] T)
  exact ⟨by rw [Lib.cell_of_heap hn]; rfl, by rw [Lib.cell_of_heap hn]; rfl, by rw [Lib.cell_of_heap hn]; rfl, Lib.frozen_of_heap hn 0, Lib.frozen_of_heap hn 1, Lib.frozen_of_heap hn 2⟩
theorem TokVar.set3 {w : World} {g : Nat} {t0 : Tok} (h : TokVar w g t0) (t : Tok) :
    TokVar (((w.setCell ⟨g, 0, none⟩ (.int .u8 t.kind)).setCell ⟨g, 1, none⟩ (.string (ofL t.text))).setCell ⟨g, 2, none⟩ (.int .i64 t.at_)) g t := by
  have c0 := h.c0
  have c1 := h.c1
  have c2 := h.c2
  have f0 := h.f0
  have f1 := h.f1
  have f2 := h.f2
  constructor <;> go_simp
theorem ret_chk {l : List Tok} {k : Nat} {x : Int} (h : checkToks l = k) (hx : x = k) : Ending.returned (.int .i64 x) = .returned (.int .i64 (checkToks l)) := by rw [h, hx]
set_option maxRecDepth 100000 in
set_option maxHeartbeats 2000000 in
theorem tcheck_any (v : Value) (l : List Tok) (w : World) (hE : Env w) (hv : Toks w v l) (hok : TokOk l) :
    Calls Tryd.prog 8 #[v] w fun e w' => e = .returned (.int .i64 (checkToks l)) ∧ Below w.heap.size w w' := by
  have HE := Lib.hid hE; clear hE
  have HV := Lib.hid hv
  have HOK := Lib.hid hok; clear hok
  obtain ⟨A, c, rfl, _, _⟩ := hv
  by_cases h8 : 800 < l.length
  · go_enter Tryd.func8, Tryd.ntmps8
    go_wp2
    go_ret
    exact ⟨ret_chk (checkToks_long l h8) rfl, Below.refl _ _⟩
  have hl8 : l.length ≤ 800 := by omega
  go_enter Tryd.func8, Tryd.ntmps8
  go_wp2
  go_loopw [11] (fun i wr => ∃ n : Nat, n ≤ l.length ∧ i = .int .i64 n ∧ fitsAll tok0 (l.take n) = true ∧ TokVar wr w.heap.size (lastTok tok0 (l.take n)) ∧ Below w.heap.size w wr) (fun i _ => l.length - (intOf i).toNat)
  case atStart => exact ⟨0, Nat.zero_le _, rfl, by simp [fitsAll], TokVar.new w tok0 _, (Below.refl _ _).alloc (Nat.le_refl _) _⟩
  case round =>
    obtain ⟨n, hn, rfl, hfa, htv, hb⟩ := hrel
    have HA := Lib.hid hfa; clear hfa
    have HT := Lib.hid htv; clear htv
    have HB := Lib.hid hb; clear hb
    have hlk := last_ok l n hn HOK.out HA.out
    have HLK := Lib.hid hlk; clear hlk
    have hsz := HT.out.lt
    have c0 := HT.out.c0
    have c1 := HT.out.c1
    have c2 := HT.out.c2
    by_cases hlt : n < l.length
    · obtain ⟨b, o, rfl, hr⟩ := HV.out.rowA (by omega)
      have hk := (hr.below HB.out).kind n hlt
      have ht := (hr.below HB.out).text n hlt
      have ha := (hr.below HB.out).at_ n hlt
      clear hr
      have f0 := HT.out.f0
      have f1 := HT.out.f1
      have f2 := HT.out.f2
      have hmem := HOK.out _ (tg_mem l n hlt)
      have HM := Lib.hid hmem; clear hmem
      cases hf : fitsB (tg l n) (lastTok tok0 (l.take n))
      all_goals
        have HFB := Lib.hid hf
        go_wp2_with (go_at_call 14; refine (fits_any (tg l n) (lastTok tok0 (l.take n)) _ ((HE.out.below HB.out).alloc _) HM.out.1 HLK.out.1 HM.out.2 HLK.out.2.1 HLK.out.2.2).mono ?_; rintro e w' ⟨rfl, hb'⟩; obtain ⟨hcell, hfro⟩ := bcell hb'; have hsz' := hb'.size; simp only [World.size_alloc] at hsz')
      · go_ret
        exact ⟨ret_chk (checkToks_form l h8 (fitsAll_no l n hlt HFB.out)) rfl, (HB.out.alloc HB.out.size _).trans (hb'.mono (by have := HB.out.size; simp; omega))⟩
      · have hbw : Below w.heap.size w w' := (HB.out.alloc HB.out.size _).trans (hb'.mono (by have := HB.out.size; simp; omega))
        refine ⟨⟨n + 1, by omega, by go_num, by rw [fitsAll_take l n hlt HA.out]; exact HFB.out, ?_, ?_⟩, by simp [intOf]; omega⟩
        · rw [lastTok_take l n hlt]
          exact TokVar.set3 ((HT.out.below ((Below.refl _ _).alloc (Nat.le_refl _) _)).below hb') (tg l n)
        · exact ((hbw.setCell (p := ⟨w.heap.size, 0, none⟩) (Nat.le_refl _) _).setCell (p := ⟨w.heap.size, 1, none⟩) (Nat.le_refl _) _).setCell (p := ⟨w.heap.size, 2, none⟩) (Nat.le_refl _) _
    · have htl : (lastTok tok0 (l.take n)).text.length ≤ 100000000 := HLK.out.2.2
      have e : l.take n = l := List.take_of_length_le (by omega)
      have HE2 := Lib.hid e; clear e
      go_wp2
      · have hgt : (2000 : Int) - ((lastTok tok0 (l.take n)).text.length : Int) < (lastTok tok0 (l.take n)).at_ := by assumption
        go_ret
        rw [HE2.out] at hgt
        exact ⟨ret_chk (checkToks_far l h8 (HE2.out ▸ HA.out) hgt) rfl, HB.out⟩
      · have hgt : (lastTok tok0 (l.take n)).at_ ≤ (2000 : Int) - ((lastTok tok0 (l.take n)).text.length : Int) := by assumption
        go_ret
        rw [HE2.out] at hgt
        exact ⟨ret_chk (checkToks_ok l h8 (HE2.out ▸ HA.out) (by omega)) rfl, HB.out⟩
end Go.Proofs.YtpomgledekkjjaaDoor
