/-
  THE LAW CharsCleaned: THE ROW, PROVED: for every input the law answers true, and each argument reads as it did.
-/
import Derived.Test.YtfdcimkdhioepaaCRow
import Derived.Test.YtfdcimkdhioepaaCOpenB
import Derived.Test.YtfdcimkdhioepaaLawCleaned
namespace Go.Proofs.Ytfdcimkdhioepaa
open Go.ChangeShapes Go.WideShapes Go.ChangeAt Go.RowKit Go.MapKept Go.ChangeMaps Mist
set_option maxRecDepth 100000 in
theorem cleaned_lifted (os : Os) (started : os.Started) (H : Type) (enc : TypeId × Value → H) :
    ReturnsInHanded {} Try.checked os 10 .any (Rows.charsCleanedSpec.pre6 enc Try.prog Try.f10 Rows.charsCleanedRow.domain false) (Rows.charsCleanedSpec.post enc Try.prog Try.f10 false true false false) := by
  refine returnsInHanded_of_change_shaped own_knob started (by kernel_rfl) Try.func10
    (ChangeSpec.witness6 (enc := enc) (C := Try.checked) false ⟨#[], #[.slice none 0 0], []⟩ 8 (by kernel_rfl) (by kernel_rfl) (by kernel_rfl) (by kernel_rfl)) ?_
  intro W base args ds gs before hval0 hW _ hsz hSh _
  have hE : CEnv W := cenv_of_shaped hSh
  have hval : ∀ (j : Nat) t v, Try.f10.params[j]? = some t → args[j]? = some v → Value.okWide Try.prog W .any base t v := hval0
  have hW' := hW
  obtain ⟨p, q, hA0, hV, rfl, _, _⟩ := hW
  have hA : DataW.TrodAll enc Try.prog W 0 (fun _ => true) true Try.f10.params.toList args.toList ds p := hA0
  rw [Try.params10] at hA hval
  obtain ⟨v0, d0, rfl, rfl, h0⟩ := trodAll_one hA
  obtain ⟨rfl, rfl⟩ := trodVars_none hV
  obtain ⟨l0, hv0, hl0⟩ := bytes_of_trod (j := 0) (hval 0 45 v0 rfl rfl) h0 hsz (by rw [Try.params10]; rfl) rfl
  have fin := cleaned_law v0 l0 W hE hv0 hl0
  refine fin.mono fun e W' ⟨he, hw⟩ => ?_
  subst he
  exact ⟨_, rfl, post_true (t := 4) laid_out (by kernel_rfl) rfl (by kernel_rfl) bool_row rfl hW' hw⟩
theorem cleaned_holds : Rows.CharsCleanedSaid :=
  OpenClaim.holds_of_wide 10 Try.f10 rfl rfl rfl rfl rfl rfl rfl ⟨rfl, rfl, rfl, rfl, rfl⟩ rfl rfl rfl rfl rfl (by kernel_rfl) Try.func10 (by kernel_rfl)
    (of_decide_eq_true (by kernel_rfl)) (by unfold Func.isWrapper; first | (rw [if_pos (by decide +kernel)]; kernel_rfl) | (rw [if_neg (by decide +kernel)]; exact ⟨rfl, rfl⟩))
    (fun os started H enc _ => cleaned_lifted os started H enc)
end Go.Proofs.Ytfdcimkdhioepaa
