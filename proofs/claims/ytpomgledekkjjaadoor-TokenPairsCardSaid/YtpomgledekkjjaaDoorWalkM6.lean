/-
  WALKS: contracts at tokens and texts whose answers are known.
-/
import Derived.Test.YtpomgledekkjjaaDoorWalkS
import Derived.Test.YtpomgledekkjjaaDoorWalkU
import Derived.Test.YtpomgledekkjjaaDoorWalkV
import Derived.Test.YtpomgledekkjjaaDoorWalkZ2
import Derived.Test.YtpomgledekkjjaaDoorWalkM2
import Derived.Test.YtpomgledekkjjaaDoorWalkM5
import Derived.Test.YtpomgledekkjjaaDoorPlain19
namespace Mist
theorem ok_of_check (l : List Tok) (h : checkToks l = 0) : TokOk l := by
  intro t ht
  obtain ⟨k, hk, e⟩ := List.getElem_of_mem ht
  have h1 := checkToks_len l h k hk
  have h2 := place_ok l h k hk
  rw [tg_eq l k hk, e] at h1 h2
  exact ⟨by omega, by unfold inI64; omega⟩
end Mist
namespace Go.Proofs.YtpomgledekkjjaaDoor
open Go.RowKit Mist
theorem readw (s : Bs) (l : List Tok) (w : World) (hE : Env w) (hl : s.length ≤ 100000000) (h : Mist.read s = (l, 0, 0)) :
    Calls Tryd.prog 10 #[.string (ofL s)] w fun e w' => ∃ v, e = .returned (.tuple #[v, .int .i64 0, .int .i64 0]) ∧ Toks w' v l ∧ Below w.heap.size w w' := by
  refine (read_any s w hE hl).mono ?_
  rintro e w' ⟨v, rfl, ht, hb⟩
  rw [h] at ht ⊢
  exact ⟨v, rfl, ht, hb⟩
theorem ownw (v : Value) (l : List Tok) (w : World) (hv : Toks w v l) (h : checkToks l = 0) : Calls Tryd.prog 6 #[v] w fun e w' => ∃ v, e = .returned v ∧ Toks w' v l ∧ Below w.heap.size w w' := by
  have := (checkToks_zero l h).1
  exact own_any v l w hv (by omega)
theorem checkw (v : Value) (l : List Tok) (w : World) (hE : Env w) (hv : Toks w v l) (h : checkToks l = 0) :
    Calls Tryd.prog 8 #[v] w fun e w' => e = .returned (.int .i64 0) ∧ Below w.heap.size w w' := by
  refine (tcheck_any v l w hE hv (ok_of_check l h)).mono ?_
  rintro e w' ⟨rfl, hb⟩
  rw [h]
  exact ⟨rfl, hb⟩
theorem textw (v : Value) (l : List Tok) (s : Bs) (w : World) (hE : Env w) (hv : Toks w v l) (h : checkToks l = 0) (hs : textOf l = s) :
    Calls Tryd.prog 12 #[v] w fun e w' => e = .returned (.tuple #[.string (ofL s), .int .i64 0]) ∧ Below w.heap.size w w' := by
  refine (text_any v l w hE hv (ok_of_check l h)).mono ?_
  rintro e w' ⟨rfl, hb⟩
  rw [h, hs]
  exact ⟨rfl, hb⟩
theorem gluew (a b : Bs) (w : World) (hE : Env w) (hl : a.length + b.length ≤ 100000000) (x : Bool) (h : gluedOf a b = (x, 0)) :
    Calls Tryd.prog 11 #[.string (ofL a), .string (ofL b)] w fun e w' => e = .returned (.tuple #[.bool x, .int .i64 0]) ∧ Below w.heap.size w w' := by
  refine (glued_any a b w hE hl).mono ?_
  rintro e w' ⟨rfl, hb⟩
  rw [h]
  exact ⟨rfl, hb⟩
end Go.Proofs.YtpomgledekkjjaaDoor
