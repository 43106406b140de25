/-
  THE LAW CharsFinds: THE ROW, PROVED: for every input the law answers true, and each argument reads as it did.
-/
import Derived.Test.YtfdcimkdhioepaaCRow
import Derived.Test.YtfdcimkdhioepaaLawFinds
namespace Go.Proofs.Ytfdcimkdhioepaa
open Go.ChangeShapes Go.WideShapes Go.ChangeAt Go.RowKit Go.MapKept Go.ChangeMaps Mist
set_option maxRecDepth 100000 in
theorem finds_lifted (os : Os) (started : os.Started) (H : Type) (enc : TypeId × Value → H) :
    ReturnsInHanded {} Try.checked os 6 .any (Rows.charsFindsSpec.pre6 enc Try.prog Try.f6 Rows.charsFindsRow.domain false) (Rows.charsFindsSpec.post enc Try.prog Try.f6 false true false false) := by
  refine returnsInHanded_of_change_shaped own_knob started (by kernel_rfl) Try.func6
    (ChangeSpec.witness6 (enc := enc) (C := Try.checked) false ⟨#[], #[.string ⟨#[]⟩, .string ⟨#[]⟩], []⟩ 8 (by kernel_rfl) (by kernel_rfl) (by kernel_rfl) (by kernel_rfl)) ?_
  intro W base args ds gs before hval0 hW _ hsz hSh _
  have hE : CEnv W := cenv_of_shaped hSh
  have hval : ∀ (j : Nat) t v, Try.f6.params[j]? = some t → args[j]? = some v → Value.okWide Try.prog W .any base t v := hval0
  have hW' := hW
  obtain ⟨p, q, hA0, hV, rfl, _, _⟩ := hW
  have hA : DataW.TrodAll enc Try.prog W 0 (fun _ => true) true Try.f6.params.toList args.toList ds p := hA0
  rw [Try.params6] at hA hval
  obtain ⟨v0, v1, d0, d1, p0, p1, rfl, rfl, rfl, h0, h1⟩ := trodAll_two hA
  obtain ⟨rfl, rfl⟩ := trodVars_none hV
  obtain ⟨s0, rfl, rfl, rfl, hs0⟩ := open_string (show Try.prog.underlying 9 = some .string by kernel_rfl) (hval 0 9 v0 rfl rfl) h0
  obtain ⟨s1, rfl, rfl, rfl, hs1⟩ := open_string (show Try.prog.underlying 9 = some .string by kernel_rfl) (hval 1 9 v1 rfl rfl) h1
  have es0 : ByteArray.mk s0.data = ofL s0.data.toList := by simp [ofL]
  have es1 : ByteArray.mk s1.data = ofL s1.data.toList := by simp [ofL]
  have fin := finds_law s0.data.toList s1.data.toList W hE
  rw [← es0] at fin
  rw [← es1] at fin
  refine fin.mono fun e W' ⟨he, hw⟩ => ?_
  subst he
  exact ⟨_, rfl, post_true (t := 4) laid_out (by kernel_rfl) rfl (by kernel_rfl) bool_row rfl hW' hw⟩
theorem finds_holds : Rows.CharsFindsSaid :=
  OpenClaim.holds_of_wide 6 Try.f6 rfl rfl rfl rfl rfl rfl rfl ⟨rfl, rfl, rfl, rfl, rfl⟩ rfl rfl rfl rfl rfl (by kernel_rfl) Try.func6 (by kernel_rfl)
    (of_decide_eq_true (by kernel_rfl)) (by unfold Func.isWrapper; first | (rw [if_pos (by decide +kernel)]; kernel_rfl) | (rw [if_neg (by decide +kernel)]; exact ⟨rfl, rfl⟩))
    (fun os started H enc _ => finds_lifted os started H enc)
end Go.Proofs.Ytfdcimkdhioepaa
