/-
  THE LAW CharsWhole: THE ROW, PROVED: for every input the law answers true, and each argument reads as it did.
-/
import Derived.Test.YtfdcimkdhioepaaCRow
import Derived.Test.YtfdcimkdhioepaaCOpenB
import Derived.Test.YtfdcimkdhioepaaLawWhole
namespace Go.Proofs.Ytfdcimkdhioepaa
open Go.ChangeShapes Go.WideShapes Go.ChangeAt Go.RowKit Go.MapKept Go.ChangeMaps Mist
set_option maxRecDepth 100000 in
theorem whole_lifted (os : Os) (started : os.Started) (H : Type) (enc : TypeId × Value → H) :
    ReturnsInHanded {} Try.checked os 13 .any (Rows.charsWholeSpec.pre6 enc Try.prog Try.f13 Rows.charsWholeRow.domain false) (Rows.charsWholeSpec.post enc Try.prog Try.f13 false true false false) := by
  refine returnsInHanded_of_change_shaped own_knob started (by kernel_rfl) Try.func13
    (ChangeSpec.witness6 (enc := enc) (C := Try.checked) false ⟨#[], #[.slice none 0 0, .int .u16 0], []⟩ 8 (by kernel_rfl) (by kernel_rfl) (by kernel_rfl) (by kernel_rfl)) ?_
  intro W base args ds gs before hval0 hW _ hsz hSh _
  have hE : CEnv W := cenv_of_shaped hSh
  have hval : ∀ (j : Nat) t v, Try.f13.params[j]? = some t → args[j]? = some v → Value.okWide Try.prog W .any base t v := hval0
  have hW' := hW
  obtain ⟨p, q, hA0, hV, rfl, _, _⟩ := hW
  have hA : DataW.TrodAll enc Try.prog W 0 (fun _ => true) true Try.f13.params.toList args.toList ds p := hA0
  rw [Try.params13] at hA hval
  obtain ⟨v0, v1, d0, d1, p0, p1, rfl, rfl, rfl, h0, h1⟩ := trodAll_two hA
  obtain ⟨rfl, rfl⟩ := trodVars_none hV
  obtain ⟨l0, hv0, hl0⟩ := bytes_of_trod (j := 0) (hval 0 45 v0 rfl rfl) h0 hsz (by rw [Try.params13]; rfl) rfl
  obtain ⟨x1, rfl, hx1⟩ := u16_of_Trod (hval 1 48 v1 rfl rfl) h1
  have fin := whole_law v0 l0 x1 W hE hv0 hl0 hx1
  refine fin.mono fun e W' ⟨he, hw⟩ => ?_
  subst he
  exact ⟨_, rfl, post_true (t := 4) laid_out (by kernel_rfl) rfl (by kernel_rfl) bool_row rfl hW' hw⟩
theorem whole_holds : Rows.CharsWholeSaid :=
  OpenClaim.holds_of_wide 13 Try.f13 rfl rfl rfl rfl rfl rfl rfl ⟨rfl, rfl, rfl, rfl, rfl⟩ rfl rfl rfl rfl rfl (by kernel_rfl) Try.func13 (by kernel_rfl)
    (of_decide_eq_true (by kernel_rfl)) (by unfold Func.isWrapper; first | (rw [if_pos (by decide +kernel)]; kernel_rfl) | (rw [if_neg (by decide +kernel)]; exact ⟨rfl, rfl⟩))
    (fun os started H enc _ => whole_lifted os started H enc)
end Go.Proofs.Ytfdcimkdhioepaa
