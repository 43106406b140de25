/-
  WALKS: the law package's long and own.
-/
import Derived.Test.YtpomgledekkjjaaDoorWalkJ
import Derived.Test.YtpomgledekkjjaaDoorPlain8
namespace Go.Proofs.YtpomgledekkjjaaDoor
open Go.RowKit Mist
attribute [local go_sem] ofL_extract ofL_size ofL_get ofL_bytes ofL_append
def LongPost (l : List Tok) (w : World) (e : Ending) (w' : World) : Prop := ∃ x : Bool, e = .returned (.bool x) ∧ w' = w ∧ (x = false → l.length ≤ 1000 ∧ lens l ≤ 3000)
theorem rowCells_one (l : List Tok) : ∀ u ∈ rowCells l, u.oneCell' = true := by
  intro u hu
  obtain ⟨t, _, h⟩ := List.mem_flatMap.1 hu
  exact tokCells_one t u h
def OwnPost (l : List Tok) (w : World) (e : Ending) (w' : World) : Prop := ∃ v, e = .returned v ∧ Toks w' v l ∧ Below w.heap.size w w'
set_option maxRecDepth 100000 in
set_option maxHeartbeats 2000000 in
theorem own_any (v : Value) (l : List Tok) (w : World) (hv : Toks w v l) (hl : l.length ≤ 100000) :
    Calls Tryd.prog 6 #[v] w (OwnPost l w) := by
  obtain ⟨A, c, rfl, hc, hr⟩ := hv
  have HR := Lib.hid hr; clear hr
  obtain ⟨i0, hi0, hz0, hz1, hz2⟩ := info_parts token_info
  go_enter Tryd.func6, Tryd.ntmps6
  go_wp2_with (at_builtin
               refine wpList_append_any _ rfl (.tmp 3) (.tmp 4) 23 rfl w.heap.size 26 i0 _ 3 32 Tryd.underlying23 hi0 hz0 hz1 hz2 rfl (by decide) _ 0 [] rfl
                 (World.ownsRow_made _ _ _ (Nat.le_refl _) (by simp [maxLen]) rfl) w.heap.size A l.length c (rowCells l) rfl (HR.out.alloc (Nat.le_refl _) _) (rowCells_one l) (by simp only [maxLen]; omega) (by omega) (by simp) ?_
               intro v2 w2 hown2 hg2 _)
  go_ret
  refine ⟨_, rfl, Toks.of_own (by simpa using hown2), ?_⟩
  exact ((Below.refl _ _).alloc (Nat.le_refl _) _).grown hg2 (by simp) (fun k hk => by have h : (some w.heap.size : Option Nat) = some k := hk; injection h with h; omega)
end Go.Proofs.YtpomgledekkjjaaDoor
