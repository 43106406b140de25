/-
  WALKS, eighteenth part: mistref02.Glue, Glued; token.Glued.
-/
import Derived.Test.YtpomgledekkjjaaDoorWalkQ
import Derived.Test.YtpomgledekkjjaaDoorPlain6
namespace Go.Proofs.YtpomgledekkjjaaDoor
open Go.RowKit Mist
attribute [local go_sem] ofL_extract ofL_size ofL_get ofL_bytes ofL_append
theorem run_field1 (k : IntKind) (n m : Int) (t : ByteArray) (w : World) : (Instr.field 26 (.agg #[.int k n, .string t, .int .i64 m]) 1).run Tryd.prog w = .ok (.string t) w := by kernel_rfl
theorem ret_gl {a b : Bs} {x : Bool} {y : Int} {p : Bool} {q : Nat} (h : gluedOf a b = (p, q)) (hx : x = p) (hy : y = q) :
    Ending.returned (.tuple #[.bool x, .int .i64 y]) = .returned (.tuple #[.bool (gluedOf a b).1, .int .i64 (gluedOf a b).2]) := by
  subst hx; subst hy; rw [h]
set_option maxRecDepth 100000 in
set_option maxHeartbeats 3200000 in
theorem glued_any (a b : Bs) (w : World) (hE : Env w) (hl : a.length + b.length ≤ 100000000) :
    Calls Tryd.prog 11 #[.string (ofL a), .string (ofL b)] w fun e w' => e = .returned (.tuple #[.bool (gluedOf a b).1, .int .i64 (gluedOf a b).2]) ∧ Below w.heap.size w w' := by
  have HE := Lib.hid hE; clear hE
  have HROW := Lib.hid (heap_alloc_new w (.cells #[.string (ofL a), .string (ofL b)] 9))
  go_enter Tryd.func11, Tryd.ntmps11
  go_wp2
  go_loopw [14] (fun i wr => ∃ n : Nat, n ≤ 2 ∧ i = .int .i64 n ∧ (∀ k, k < n → kind (sg [a, b] k) ≠ 0) ∧ Below (w.heap.size + 1) (w.alloc (.cells #[.string (ofL a), .string (ofL b)] 9)) wr) (fun i _ => 2 - (intOf i).toNat)
  case atStart => exact ⟨0, by omega, rfl, by intro k hk; omega, Below.refl _ _⟩
  case round =>
    obtain ⟨n, hn, rfl, hall, hb⟩ := hrel
    have HA := Lib.hid hall; clear hall
    have HB := Lib.hid hb; clear hb
    have hbw : Below w.heap.size w wr := ((Below.refl _ _).alloc (Nat.le_refl _) _).trans (HB.out.mono (by omega))
    have HBW := Lib.hid hbw; clear hbw
    by_cases hlt : n < 2
    · have hrow : wr.heap[w.heap.size]? = some (.cells (strRow [a, b]) 9 (0, 0)) := (HB.out.block _ (by omega)).trans HROW.out
      have hc := strCell hrow n (show n < [a, b].length from hlt)
      clear hrow
      have hsz := HB.out.size
      simp only [World.size_alloc] at hsz
      have hsl : (sg [a, b] n).length ≤ 100000000 := by
        rcases (by omega : n = 0 ∨ n = 1) with rfl | rfl <;> simp [sg] <;> omega
      by_cases hk : kind (sg [a, b] n) = 0
      · have hk' : ((kindErr (sg [a, b] n) : Int) != 0) = true := by rw [kindErr_four _ hk]; rfl
        have HK := Lib.hid (kindErr_four _ hk)
        have HG := Lib.hid (gluedOf_bad a b (by rcases (by omega : n = 0 ∨ n = 1) with rfl | rfl; exact .inl hk; exact .inr hk)); clear hk
        go_wp2_with (go_at_call 18; refine (kind_any (sg [a, b] n) _ (HE.out.below HBW.out) hsl).mono ?_; rintro e w1 ⟨rfl, hb1⟩)
        go_ret2
        exact ⟨ret_gl HG.out rfl (by rw [HK.out]), HBW.out.trans (hb1.mono (by omega))⟩
      · have hk' : ((kindErr (sg [a, b] n) : Int) != 0) = false := by rw [(kindErr_zero _).2 hk]; rfl
        have HK := Lib.hid hk; clear hk
        go_wp2_with (go_at_call 18; refine (kind_any (sg [a, b] n) _ (HE.out.below HBW.out) hsl).mono ?_; rintro e w1 ⟨rfl, hb1⟩)
        refine ⟨⟨n + 1, by omega, by go_num, ?_, HB.out.trans (hb1.mono hsz)⟩, by simp [intOf]; omega⟩
        intro k hk
        rcases Nat.lt_or_ge k n with h | h
        · exact HA.out k h
        · rw [show k = n by omega]; exact HK.out
    · have e : n = 2 := by omega
      have HG := Lib.hid (gluedOf_ok a b (HA.out 0 (by omega)) (HA.out 1 (by omega)))
      clear e
      go_wp2_with (go_at_call 19; refine (glue_any a b _ (HE.out.below HBW.out) hl).mono ?_; rintro e w1 ⟨rfl, hb1⟩)
      go_ret2
      exact ⟨ret_gl HG.out rfl rfl, HBW.out.trans (hb1.mono HBW.out.size)⟩
end Go.Proofs.YtpomgledekkjjaaDoor
