/-
  WALKS: the law package's long and own.
-/
import Derived.Test.YtkckmnipidpdeaaDoorWalkJ
import Derived.Test.YtkckmnipidpdeaaDoorPlain8
namespace Go.Proofs.YtkckmnipidpdeaaDoor
open Go.RowKit Mist
attribute [local go_sem] ofL_extract ofL_size ofL_get ofL_bytes ofL_append
def LongPost (l : List Tok) (w : World) (e : Ending) (w' : World) : Prop := ∃ x : Bool, e = .returned (.bool x) ∧ w' = w ∧ (x = false → l.length ≤ 1000 ∧ lens l ≤ 3000)
set_option maxRecDepth 100000 in
set_option maxHeartbeats 2000000 in
theorem long_any (v : Value) (l : List Tok) (w : World) (hv : Toks w v l) (hw : TokWide l) (hl : l.length ≤ 4611686018427387904) :
    Calls Tryd.prog 20 #[v] w (LongPost l w) := by
  obtain ⟨A, c, rfl⟩ : ∃ A c, v = .slice A l.length c := by obtain ⟨A, c, h, _⟩ := hv; exact ⟨A, c, h⟩
  have HV := Lib.hid hv; clear hv
  have HW := Lib.hid hw; clear hw
  go_enter Tryd.func20, Tryd.ntmps20
  go_wp2
  go_loopw [3, 4] (fun s i wr => ∃ n : Nat, n ≤ l.length ∧ n ≤ 1001 ∧ i = .int .i64 n ∧ s = .int .i64 (lens (l.take n)) ∧ wr = w) (fun _ i _ => l.length - (intOf i).toNat)
  case atStart => exact ⟨0, Nat.zero_le _, by omega, rfl, by simp [lens], rfl⟩
  case round =>
    obtain ⟨n, hn, hn1, rfl, rfl, rfl⟩ := hrel
    have hs := lens_le l n HW.out
    by_cases hlt : n < l.length
    · by_cases h1 : n < 1001
      · obtain ⟨b, o, rfl, hr⟩ := HV.out.rowA (by omega)
        have ht := hr.text n hlt
        have hbl := hr.lt
        clear hr
        have hstep := lens_take l n hlt
        have hlim := (HW.out _ (tg_mem l n hlt)).1
        go_wp2
        exact ⟨⟨n + 1, by omega, by omega, by go_num, by rw [hstep]; go_num, by first | rfl | trivial⟩, by simp [intOf]; omega⟩
      · go_wp2
        go_ret
        refine ⟨_, rfl, rfl, fun h => ?_⟩
        have hgt : 1000 < l.length := by omega
        simp at h <;> omega
    · have e : l.take n = l := List.take_of_length_le (by omega)
      rw [e] at hs ⊢
      go_wp2
      all_goals
        go_ret
        refine ⟨_, rfl, rfl, fun h => ?_⟩
        simp at h <;> omega
theorem rowCells_one (l : List Tok) : ∀ u ∈ rowCells l, u.oneCell' = true := by
  intro u hu
  obtain ⟨t, _, h⟩ := List.mem_flatMap.1 hu
  exact tokCells_one t u h
def OwnPost (l : List Tok) (w : World) (e : Ending) (w' : World) : Prop := ∃ v, e = .returned v ∧ Toks w' v l ∧ Below w.heap.size w w'
set_option maxRecDepth 100000 in
set_option maxHeartbeats 2000000 in
theorem own_any (v : Value) (l : List Tok) (w : World) (hv : Toks w v l) (hl : l.length ≤ 100000) :
    Calls Tryd.prog 21 #[v] w (OwnPost l w) := by
  obtain ⟨A, c, rfl, hc, hr⟩ := hv
  have HR := Lib.hid hr; clear hr
  obtain ⟨i0, hi0, hz0, hz1, hz2⟩ := info_parts token_info
  go_enter Tryd.func21, Tryd.ntmps21
  go_wp2_with (at_builtin
               refine wpList_append_any _ rfl (.tmp 3) (.tmp 4) 23 rfl w.heap.size 38 i0 _ 3 32 Tryd.underlying23 hi0 hz0 hz1 hz2 rfl (by decide) _ 0 [] rfl
                 (World.ownsRow_made _ _ _ (Nat.le_refl _) (by simp [maxLen]) rfl) w.heap.size A l.length c (rowCells l) rfl (HR.out.alloc (Nat.le_refl _) _) (rowCells_one l) (by simp only [maxLen]; omega) (by omega) (by simp) ?_
               intro v2 w2 hown2 hg2 _)
  go_ret
  refine ⟨_, rfl, Toks.of_own (by simpa using hown2), ?_⟩
  exact ((Below.refl _ _).alloc (Nat.le_refl _) _).grown hg2 (by simp) (fun k hk => by have h : (some w.heap.size : Option Nat) = some k := hk; injection h with h; omega)
end Go.Proofs.YtkckmnipidpdeaaDoor
