/-
  WALKS: mistref02.Alike and mistref02.Same.
-/
import Derived.Test.YtkckmnipidpdeaaDoorWalkJ
import Derived.Test.YtkckmnipidpdeaaDoorPlain7
namespace Go.Proofs.YtkckmnipidpdeaaDoor
open Go.RowKit Mist
attribute [local go_sem] ofL_extract ofL_size ofL_get ofL_bytes ofL_append
def AlikePost (l m : List Tok) (w : World) (e : Ending) (w' : World) : Prop := e = .returned (.bool (alikeB l m)) ∧ Below w.heap.size w w'
theorem alikePost_of {l m : List Tok} {w w' : World} {x : Bool} (h : alikeB l m = x) (hb : Below w.heap.size w w') : AlikePost l m w (.returned (.bool x)) w' := ⟨by rw [h], hb⟩
set_option maxRecDepth 100000 in
set_option maxHeartbeats 2000000 in
theorem ralike_any (v1 v2 : Value) (l m : List Tok) (w : World) (h1 : Toks w v1 l) (h2 : Toks w v2 m) (hl : l.length ≤ 100000000) (_hm : m.length ≤ 100000000) :
    Calls Tryd.prog 61 #[v1, v2] w (AlikePost l m w) := by
  obtain ⟨A1, c1, rfl⟩ : ∃ A c, v1 = .slice A l.length c := by obtain ⟨A, c, h, _⟩ := h1; exact ⟨A, c, h⟩
  obtain ⟨A2, c2, rfl⟩ : ∃ A c, v2 = .slice A m.length c := by obtain ⟨A, c, h, _⟩ := h2; exact ⟨A, c, h⟩
  have H1 := Lib.hid h1; clear h1
  have H2 := Lib.hid h2; clear h2
  by_cases hlm : l.length = m.length
  case neg =>
    have hlm' : ((l.length : Int) != (m.length : Int)) = true := by simp; omega
    have HX := Lib.hid (alike_len l m hlm); clear hlm
    go_enter Tryd.func61, Tryd.ntmps61
    go_wp2
    go_ret
    exact alikePost_of HX.out (Below.refl _ _)
  have HL := Lib.hid hlm
  by_cases h0 : 0 < l.length
  · obtain ⟨b1, o1, rfl, r1⟩ := H1.out.rowA h0
    obtain ⟨b2, o2, rfl, r2⟩ := H2.out.rowA (by omega)
    have R1 := Lib.hid r1; clear r1
    have R2 := Lib.hid r2; clear r2
    rw [← hlm]
    clear hlm
    go_enter Tryd.func61, Tryd.ntmps61
    go_wp2
    go_loopw [5] (fun i wr => ∃ n q : Nat, n ≤ l.length ∧ i = .int .i64 n ∧ wr = w.drewN q ∧ ∀ k, k < n → faceOf (tg l k) = faceOf (tg m k)) (fun i _ => l.length - (intOf i).toNat)
    case atStart => exact ⟨0, 0, Nat.zero_le _, rfl, rfl, by intro k h; omega⟩
    case round =>
      obtain ⟨n, q, hn, rfl, rfl, hall⟩ := hrel
      have HA := Lib.hid hall; clear hall
      by_cases hlt : n < l.length
      · have hltm : n < m.length := by have := HL.out; omega
        have k1 := R1.out.kind n hlt
        have t1 := R1.out.text n hlt
        have k2 := R2.out.kind n hltm
        have t2 := R2.out.text n hltm
        by_cases hk : (tg l n).kind = (tg m n).kind
        · by_cases ht : (tg l n).text = (tg m n).text
          · have HN := Lib.hid ((face_eq _ _).2 ⟨hk, ht⟩)
            rw [hk] at k1
            rw [ht] at t1
            clear hk ht
            go_wp2
            go_quiet (fail)
            go_wp2
            refine ⟨⟨n + 1, _, by omega, by go_num, rfl, ?_⟩, by simp [intOf]; omega⟩
            intro k hk
            rcases Nat.lt_or_ge k n with h | h
            · exact HA.out k h
            · rw [show k = n by omega]; exact HN.out
          · have HN := Lib.hid (alike_at l m n hlt hltm (fun e => ht ((face_eq _ _).1 e).2))
            rw [hk] at k1
            have ht' : ((tg l n).text == (tg m n).text) = false := by simpa using ht
            clear hk ht
            go_wp2
            go_quiet (fail)
            go_wp2
            go_ret
            exact alikePost_of HN.out (bdrewN (bdrewN (Below.refl _ _) _) _)
        · have HN := Lib.hid (alike_at l m n hlt hltm (fun e => hk ((face_eq _ _).1 e).1))
          have hk' : (((tg l n).kind : Int) != ((tg m n).kind : Int)) = true := by simp; omega
          have hk2 : (((tg l n).kind : Int) == ((tg m n).kind : Int)) = false := by simp; omega
          clear hk
          go_wp2
          go_quiet (fail)
          go_wp2
          go_ret
          exact alikePost_of HN.out (bdrewN (bdrewN (Below.refl _ _) _) _)
      · go_wp2
        go_ret
        exact alikePost_of (alike_all l m HL.out (fun k hk => HA.out k (by omega))) (bdrewN (Below.refl _ _) _)
  · have HX := Lib.hid (alike_all l m HL.out (fun k hk => by omega))
    have e1 : l.length = 0 := by omega
    have e2 : m.length = 0 := by omega
    rw [e1, e2]
    go_enter Tryd.func61, Tryd.ntmps61
    go_wp2
    refine wp_loop_once ?_
    go_wp2
    go_ret
    exact alikePost_of HX.out (Below.refl _ _)
end Go.Proofs.YtkckmnipidpdeaaDoor
