/-
  WALKS: contracts at tokens and texts whose answers are known.
-/
import Derived.Test.YtkckmnipidpdeaaDoorWalkS
import Derived.Test.YtkckmnipidpdeaaDoorWalkU
import Derived.Test.YtkckmnipidpdeaaDoorWalkV
import Derived.Test.YtkckmnipidpdeaaDoorWalkZ2
import Derived.Test.YtkckmnipidpdeaaDoorWalkM2
import Derived.Test.YtkckmnipidpdeaaDoorWalkM5
import Derived.Test.YtkckmnipidpdeaaDoorPlain19
namespace Mist
theorem ok_of_check (l : List Tok) (h : checkToks l = 0) : TokOk l := by
  intro t ht
  obtain ⟨k, hk, e⟩ := List.getElem_of_mem ht
  have h1 := checkToks_len l h k hk
  have h2 := place_ok l h k hk
  rw [tg_eq l k hk, e] at h1 h2
  exact ⟨by omega, by unfold inI64; omega⟩
end Mist
namespace Go.Proofs.YtkckmnipidpdeaaDoor
open Go.RowKit Mist
theorem readw (s : Bs) (l : List Tok) (w : World) (hE : Env w) (hl : s.length ≤ 100000000) (h : Mist.read s = (l, 0, 0)) :
    Calls Tryd.prog 15 #[.string (ofL s)] w fun e w' => ∃ v, e = .returned (.tuple #[v, .int .i64 0, .int .i64 0]) ∧ Toks w' v l ∧ Below w.heap.size w w' := by
  refine (read_any s w hE hl).mono ?_
  rintro e w' ⟨v, rfl, ht, hb⟩
  rw [h] at ht ⊢
  exact ⟨v, rfl, ht, hb⟩
theorem ownw (v : Value) (l : List Tok) (w : World) (hv : Toks w v l) (h : checkToks l = 0) : Calls Tryd.prog 21 #[v] w fun e w' => ∃ v, e = .returned v ∧ Toks w' v l ∧ Below w.heap.size w w' := by
  have := (checkToks_zero l h).1
  exact own_any v l w hv (by omega)
theorem checkw (v : Value) (l : List Tok) (w : World) (hE : Env w) (hv : Toks w v l) (h : checkToks l = 0) :
    Calls Tryd.prog 30 #[v] w fun e w' => e = .returned (.int .i64 0) ∧ Below w.heap.size w w' := by
  refine (tcheck_any v l w hE hv (ok_of_check l h)).mono ?_
  rintro e w' ⟨rfl, hb⟩
  rw [h]
  exact ⟨rfl, hb⟩
theorem textw (v : Value) (l : List Tok) (s : Bs) (w : World) (hE : Env w) (hv : Toks w v l) (h : checkToks l = 0) (hs : textOf l = s) :
    Calls Tryd.prog 27 #[v] w fun e w' => e = .returned (.tuple #[.string (ofL s), .int .i64 0]) ∧ Below w.heap.size w w' := by
  refine (text_any v l w hE hv (ok_of_check l h)).mono ?_
  rintro e w' ⟨rfl, hb⟩
  rw [h, hs]
  exact ⟨rfl, hb⟩
theorem joinw (v : Value) (l : List Tok) (s : Bs) (w : World) (hE : Env w) (hv : Toks w v l) (h : checkToks l = 0) (hs : joinOf l = (s, 0)) :
    Calls Tryd.prog 31 #[v] w fun e w' => e = .returned (.tuple #[.string (ofL s), .int .i64 0]) ∧ Below w.heap.size w w' := by
  refine (join_any v l w hE hv (ok_of_check l h)).mono ?_
  rintro e w' ⟨rfl, hb⟩
  rw [hs]
  exact ⟨rfl, hb⟩
theorem samew (a b : Bs) (w : World) (hE : Env w) (ha : a.length ≤ 100000000) (hb : b.length ≤ 100000000) (h : sameOf a b = (true, 0)) :
    Calls Tryd.prog 35 #[.string (ofL a), .string (ofL b)] w fun e w' => e = .returned (.tuple #[.bool true, .int .i64 0]) ∧ Below w.heap.size w w' := by
  refine (same_any a b w hE ha hb).mono ?_
  rintro e w' ⟨rfl, hb⟩
  rw [h]
  exact ⟨rfl, hb⟩
theorem alikew (v1 v2 : Value) (l m : List Tok) (x : Bool) (w : World) (h1 : Toks w v1 l) (h2 : Toks w v2 m) (hl : l.length ≤ 100000000) (hm : m.length ≤ 100000000) (h : alikeB l m = x) :
    Calls Tryd.prog 28 #[v1, v2, .bool false] w fun e w' => e = .returned (.bool x) ∧ Below w.heap.size w w' := by
  refine (tsame_alike v1 v2 l m w h1 h2 hl hm).mono ?_
  rintro e w' ⟨rfl, hb⟩
  rw [h]
  exact ⟨rfl, hb⟩
theorem gluew (a b : Bs) (w : World) (hE : Env w) (hl : a.length + b.length ≤ 100000000) (x : Bool) (h : gluedOf a b = (x, 0)) :
    Calls Tryd.prog 18 #[.string (ofL a), .string (ofL b)] w fun e w' => e = .returned (.tuple #[.bool x, .int .i64 0]) ∧ Below w.heap.size w w' := by
  refine (glued_any a b w hE hl).mono ?_
  rintro e w' ⟨rfl, hb⟩
  rw [h]
  exact ⟨rfl, hb⟩
end Go.Proofs.YtkckmnipidpdeaaDoor
