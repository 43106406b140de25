/-
  WALKS, eighteenth part: mistref02.Glue, Glued; token.Glued.
-/
import Derived.Test.YtkckmnipidpdeaaDoorWalkQ
import Derived.Test.YtkckmnipidpdeaaDoorPlain6
namespace Go.Proofs.YtkckmnipidpdeaaDoor
open Go.RowKit Mist
attribute [local go_sem] ofL_extract ofL_size ofL_get ofL_bytes ofL_append
theorem run_field1 (k : IntKind) (n m : Int) (t : ByteArray) (w : World) : (Instr.field 38 (.agg #[.int k n, .string t, .int .i64 m]) 1).run Tryd.prog w = .ok (.string t) w := by kernel_rfl
set_option maxRecDepth 100000 in
set_option maxHeartbeats 3200000 in
theorem rglue_any (a b : Bs) (w : World) (ha : kind a ≠ 0) (hb : kind b ≠ 0) (hl : a.length + b.length ≤ 100000000) :
    Calls Tryd.prog 49 #[.string (ofL a), .string (ofL b)] w fun e w' => e = .returned (.bool (glue a b)) ∧ Below w.heap.size w w' := by
  have hfb := (kind_first b hb).1
  have hz := fun w => rfirst_zero (a ++ b) w (by simpa using hl)
  have hq := fun w => rfirst_val (a ++ b) a.length w (by simpa using hl) (by simp)
  rw [List.drop_left] at hq
  have HZ := Lib.hid hz; clear hz
  have HQ := Lib.hid hq; clear hq
  have hfb' : ((first b).2 == b) = true := by simp [hfb]
  have hfld := fun (n m : Int) (t : ByteArray) (w : World) => run_field1 .u8 n m t w
  rcases glue_cases a b ha with ⟨h1, h⟩ | ⟨h1, h2, h⟩ | ⟨h1, h2, h⟩
  all_goals
    have H := Lib.hid h; clear h ha hb hfb
    go_enter Tryd.func49, Tryd.ntmps49
    go_wp2_with (first
      | (go_at_call_of 47 (Value.int .i64 0); refine (HZ.out _).mono ?_; rintro e w1 ⟨rfl, hb1⟩)
      | (go_at_call 47; refine (HQ.out _).mono ?_; rintro e w2 ⟨rfl, hb2⟩))
    go_ret
    first
      | exact ⟨ret_bool H.out.symm, hb1.alloc hb1.size _⟩
      | exact ⟨ret_bool H.out.symm, (hb1.alloc hb1.size _).trans (hb2.mono (by have := hb1.size; simp; omega))⟩
theorem ret_gl {a b : Bs} {x : Bool} {y : Int} {p : Bool} {q : Nat} (h : gluedOf a b = (p, q)) (hx : x = p) (hy : y = q) :
    Ending.returned (.tuple #[.bool x, .int .i64 y]) = .returned (.tuple #[.bool (gluedOf a b).1, .int .i64 (gluedOf a b).2]) := by
  subst hx; subst hy; rw [h]
set_option maxRecDepth 100000 in
set_option maxHeartbeats 3200000 in
theorem rglued_any (a b : Bs) (w : World) (hl : a.length + b.length ≤ 100000000) :
    Calls Tryd.prog 19 #[.string (ofL a), .string (ofL b)] w fun e w' => e = .returned (.tuple #[.bool (gluedOf a b).1, .int .i64 (gluedOf a b).2]) ∧ Below w.heap.size w w' := by
  by_cases ha : kind a = 0
  · have ha' : ((kindErr a : Int) != 0) = true := by rw [kindErr_four a ha]; rfl
    have HK := Lib.hid (kindErr_four a ha)
    have HG := Lib.hid (gluedOf_bad a b (.inl ha)); clear ha
    go_enter Tryd.func19, Tryd.ntmps19
    go_wp2_with (go_at_call 39; refine (rkind_any a _ (by omega)).mono ?_; rintro e w1 ⟨rfl, hb1⟩)
    go_ret2
    exact ⟨ret_gl HG.out rfl (by rw [HK.out]), hb1⟩
  have ha' : ((kindErr a : Int) != 0) = false := by rw [(kindErr_zero a).2 ha]; rfl
  by_cases hb : kind b = 0
  · have hb' : ((kindErr b : Int) != 0) = true := by rw [kindErr_four b hb]; rfl
    have HK := Lib.hid (kindErr_four b hb)
    have HG := Lib.hid (gluedOf_bad a b (.inr hb)); clear ha hb
    have tok : True := trivial
    go_enter Tryd.func19, Tryd.ntmps19
    go_wp2_with (first
      | (go_at_call_of 39 (Value.string (ofL a)); have _t := tok; refine (rkind_any a _ (by omega)).mono ?_; clear tok; rintro e w1 ⟨rfl, hb1⟩)
      | (go_at_call_of 39 (Value.string (ofL b)); refine (rkind_any b _ (by omega)).mono ?_; rintro e w2 ⟨rfl, hb2⟩))
    go_ret2
    exact ⟨ret_gl HG.out rfl (by rw [HK.out]), hb1.trans (hb2.mono hb1.size)⟩
  have hb' : ((kindErr b : Int) != 0) = false := by rw [(kindErr_zero b).2 hb]; rfl
  have HG := Lib.hid (gluedOf_ok a b ha hb)
  have HA := Lib.hid ha; clear ha
  have HB := Lib.hid hb; clear hb
  have tok : True := trivial
  go_enter Tryd.func19, Tryd.ntmps19
  go_wp2_with (first
      | (go_at_call_of 39 (Value.string (ofL a)); have _t := tok; refine (rkind_any a _ (by omega)).mono ?_; clear tok; rintro e w1 ⟨rfl, hb1⟩)
      | (go_at_call_of 39 (Value.string (ofL b)); refine (rkind_any b _ (by omega)).mono ?_; rintro e w2 ⟨rfl, hb2⟩)
      | (go_at_call 49; refine (rglue_any a b _ HA.out HB.out hl).mono ?_; rintro e w3 ⟨rfl, hb3⟩))
  go_ret2
  exact ⟨ret_gl HG.out rfl rfl, (hb1.trans (hb2.mono hb1.size)).trans (hb3.mono (by have := hb1.size; have := hb2.size; omega))⟩
set_option maxRecDepth 100000 in
set_option maxHeartbeats 3200000 in
theorem glued_any (a b : Bs) (w : World) (hE : Env w) (hl : a.length + b.length ≤ 100000000) :
    Calls Tryd.prog 18 #[.string (ofL a), .string (ofL b)] w fun e w' => e = .returned (.tuple #[.bool (gluedOf a b).1, .int .i64 (gluedOf a b).2]) ∧ Below w.heap.size w w' := by
  have HE := Lib.hid hE; clear hE
  have HROW := Lib.hid (heap_alloc_new w (.cells #[.string (ofL a), .string (ofL b)] 9))
  go_enter Tryd.func18, Tryd.ntmps18
  go_wp2
  go_loopw [14] (fun i wr => ∃ n : Nat, n ≤ 2 ∧ i = .int .i64 n ∧ (∀ k, k < n → kind (sg [a, b] k) ≠ 0) ∧ Below (w.heap.size + 1) (w.alloc (.cells #[.string (ofL a), .string (ofL b)] 9)) wr) (fun i _ => 2 - (intOf i).toNat)
  case atStart => exact ⟨0, by omega, rfl, by intro k hk; omega, Below.refl _ _⟩
  case round =>
    obtain ⟨n, hn, rfl, hall, hb⟩ := hrel
    have HA := Lib.hid hall; clear hall
    have HB := Lib.hid hb; clear hb
    have hbw : Below w.heap.size w wr := ((Below.refl _ _).alloc (Nat.le_refl _) _).trans (HB.out.mono (by omega))
    have HBW := Lib.hid hbw; clear hbw
    by_cases hlt : n < 2
    · have hrow : wr.heap[w.heap.size]? = some (.cells (strRow [a, b]) 9 (0, 0)) := (HB.out.block _ (by omega)).trans HROW.out
      have hc := strCell hrow n (show n < [a, b].length from hlt)
      clear hrow
      have hsz := HB.out.size
      simp only [World.size_alloc] at hsz
      have hsl : (sg [a, b] n).length ≤ 100000000 := by
        rcases (by omega : n = 0 ∨ n = 1) with rfl | rfl <;> simp [sg] <;> omega
      by_cases hk : kind (sg [a, b] n) = 0
      · have hk' : ((kindErr (sg [a, b] n) : Int) != 0) = true := by rw [kindErr_four _ hk]; rfl
        have HK := Lib.hid (kindErr_four _ hk)
        have HG := Lib.hid (gluedOf_bad a b (by rcases (by omega : n = 0 ∨ n = 1) with rfl | rfl; exact .inl hk; exact .inr hk)); clear hk
        go_wp2_with (go_at_call 24; refine (kind_any (sg [a, b] n) _ (HE.out.below HBW.out) hsl).mono ?_; rintro e w1 ⟨rfl, hb1⟩)
        go_ret2
        exact ⟨ret_gl HG.out rfl (by rw [HK.out]), HBW.out.trans (hb1.mono (by omega))⟩
      · have hk' : ((kindErr (sg [a, b] n) : Int) != 0) = false := by rw [(kindErr_zero _).2 hk]; rfl
        have HK := Lib.hid hk; clear hk
        go_wp2_with (go_at_call 24; refine (kind_any (sg [a, b] n) _ (HE.out.below HBW.out) hsl).mono ?_; rintro e w1 ⟨rfl, hb1⟩)
        refine ⟨⟨n + 1, by omega, by go_num, ?_, HB.out.trans (hb1.mono hsz)⟩, by simp [intOf]; omega⟩
        intro k hk
        rcases Nat.lt_or_ge k n with h | h
        · exact HA.out k h
        · rw [show k = n by omega]; exact HK.out
    · have e : n = 2 := by omega
      have HG := Lib.hid (gluedOf_ok a b (HA.out 0 (by omega)) (HA.out 1 (by omega)))
      clear e
      go_wp2_with (go_at_call 48; refine (glue_any a b _ (HE.out.below HBW.out) hl).mono ?_; rintro e w1 ⟨rfl, hb1⟩)
      go_ret2
      exact ⟨ret_gl HG.out rfl rfl, HBW.out.trans (hb1.mono HBW.out.size)⟩
end Go.Proofs.YtkckmnipidpdeaaDoor
