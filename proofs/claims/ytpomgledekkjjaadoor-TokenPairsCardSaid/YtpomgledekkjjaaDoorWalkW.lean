/-
  WALKS: mistref02.Check.
-/
import Derived.Test.YtpomgledekkjjaaDoorWalkK
namespace Go.Proofs.YtpomgledekkjjaaDoor
open Go.RowKit Mist
attribute [local go_sem] ofL_extract ofL_size ofL_get ofL_bytes ofL_append
theorem fitsB_no (t b : Tok) (h : kind t.text = 0 ∨ kind t.text ≠ t.kind ∨ t.at_ < 0 ∨ t.at_ - b.at_ < (b.text.length : Int)) : fitsB t b = false := by
  rw [Bool.eq_false_iff]
  intro hf
  unfold fitsB at hf
  simp only [Bool.and_eq_true, decide_eq_true_eq, bne_iff_ne, beq_iff_eq] at hf
  rcases h with h | h | h | h
  · exact hf.1.1.1 h
  · exact h hf.1.1.2
  · omega
  · omega
theorem fitsB_yes (t b : Tok) (h1 : kind t.text ≠ 0) (h2 : kind t.text = t.kind) (h3 : ¬ t.at_ < 0) (h4 : ¬ t.at_ - b.at_ < (b.text.length : Int)) : fitsB t b = true := by
  unfold fitsB
  simp only [Bool.and_eq_true, decide_eq_true_eq, bne_iff_ne, beq_iff_eq]
  exact ⟨⟨⟨h1, h2⟩, by omega⟩, by omega⟩
theorem kindErr_bad (s : Bs) (h : kind s = 0) : kindErr s = 4 := by unfold kindErr; rw [if_pos h]
theorem kindErr_zero (s : Bs) (h : kind s ≠ 0) : kindErr s = 0 := by
  unfold kindErr; simp [h]
def ChkPost (l : List Tok) (w : World) (e : Ending) (w' : World) : Prop := e = .returned (.int .i64 (checkToks l)) ∧ Below w.heap.size w w'
theorem chkPost_of {l : List Tok} {k : Nat} {x : Int} {w w' : World} (h : checkToks l = k) (hx : x = k) (hb : Below w.heap.size w w') : ChkPost l w (.returned (.int .i64 x)) w' := ⟨by rw [h, hx], hb⟩
end Go.Proofs.YtpomgledekkjjaaDoor
