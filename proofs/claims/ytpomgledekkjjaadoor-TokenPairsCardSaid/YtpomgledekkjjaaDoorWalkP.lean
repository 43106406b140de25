/-
  WALKS, sixteenth part: the map of closing brackets.
-/
import Derived.Test.YtpomgledekkjjaaDoorWalkO
import Derived.MapKept
import Derived.Test.YtpomgledekkjjaaDoorPlain5
namespace Go.Proofs.YtpomgledekkjjaaDoor
open Go.RowKit Mist
attribute [local go_sem] ofL_extract ofL_size ofL_get ofL_bytes ofL_append
def closers : Array MapEntry := #[⟨.string ⟨#[40]⟩, .string ⟨#[41]⟩, 0⟩, ⟨.string ⟨#[91]⟩, .string ⟨#[93]⟩, 1⟩, ⟨.string ⟨#[123]⟩, .string ⟨#[125]⟩, 2⟩]
theorem ofL_beq (x : Bs) (y : Bs) : (ofL x == ofL y) = decide (x = y) := by
  rw [Bool.eq_iff_iff]
  constructor
  · intro h
    have := ofL_bytes x
    rw [beq_toListBytes] at h
    rw [ofL_bytes, ofL_bytes] at h
    simpa using h
  · intro h
    have h : x = y := by simpa using h
    rw [h, beq_toListBytes]
    simp
theorem run_checkStr (b : Bool) (s : ByteArray) (w : World) : (Instr.checkKey b 10000 9 (.string s)).run Tryd.prog w = .ok () w :=
  MapKept.run_checkKey Tryd.underlying9 (by trivial) b 9999
theorem run_closer (w : World) (m : Nat) (x : Bs) (hm : w.heap[m]? = some (.map closers 3)) :
    (Instr.lookup 36 (.map (some m)) (.string (ofL x)) false).run Tryd.prog w = .ok (.string (ofL (closerOf x))) w := by
  have hz : (zeroValue 9).run Tryd.prog w = .ok (.string (ofL [])) w := by kernel_rfl
  have e1 : (ofL x == ByteArray.mk #[40]) = decide (x = [40]) := ofL_beq x [40]
  have e2 : (ofL x == ByteArray.mk #[91]) = decide (x = [91]) := ofL_beq x [91]
  have e3 : (ofL x == ByteArray.mk #[123]) = decide (x = [123]) := ofL_beq x [123]
  have hg : (getObj m).run Tryd.prog w = .ok (.map closers 3) w := MapKept.run_getObj_map hm
  have hf : ∀ r, Instr.findNow .string (.string (ofL x)) closers.toList 0 = some r → (Instr.findKey 9 (.string (ofL x)) closers.toList).run Tryd.prog w = .ok r w := by
    intro r h
    simp only [Instr.findKey, Sem.run_bind, run_underlying Tryd.underlying9, Result.andThen_ok, h]
    rfl
  have hr : Instr.findNow .string (.string (ofL x)) closers.toList 0 = some (if x = [40] then some (0, .string (ofL [41])) else if x = [91] then some (1, .string (ofL [93])) else if x = [123] then some (2, .string (ofL [125])) else none) := by
    simp only [closers, Instr.findNow, Instr.sameNow, e1, e2, e3]
    by_cases h1 : x = [40]
    · simp [h1]; rfl
    · by_cases h2 : x = [91]
      · simp [h2]; rfl
      · by_cases h3 : x = [123]
        · simp [h3]; rfl
        · simp [h1, h2, h3]
  have hk := hf _ hr
  unfold closerOf
  by_cases h1 : x = [40]
  · rw [if_pos h1] at hk ⊢
    unfold Instr.lookup; simp only [Sem.run_bind, run_underlying Tryd.underlying36, Result.andThen_ok, hg, run_checkStr, hk, Sem.run_pure, Bool.false_eq_true, if_false]
  · by_cases h2 : x = [91]
    · rw [if_neg h1, if_pos h2] at hk ⊢
      unfold Instr.lookup; simp only [Sem.run_bind, run_underlying Tryd.underlying36, Result.andThen_ok, hg, run_checkStr, hk, Sem.run_pure, Bool.false_eq_true, if_false]
    · by_cases h3 : x = [123]
      · rw [if_neg h1, if_neg h2, if_pos h3] at hk ⊢
        unfold Instr.lookup; simp only [Sem.run_bind, run_underlying Tryd.underlying36, Result.andThen_ok, hg, run_checkStr, hk, Sem.run_pure, Bool.false_eq_true, if_false]
      · rw [if_neg h1, if_neg h2, if_neg h3] at hk ⊢
        unfold Instr.lookup; simp only [Sem.run_bind, run_underlying Tryd.underlying36, Result.andThen_ok, hg, run_checkStr, hk, hz, Sem.run_pure, Bool.false_eq_true, if_false]
theorem heap_put (w : World) (o o' : Obj) : (w.alloc o).heap.setIfInBounds w.heap.size o' = (w.alloc o').heap := by
  show (w.heap.push o).setIfInBounds w.heap.size o' = w.heap.push o'
  ext i h1 h2
  · simp
  · rw [Array.getElem_setIfInBounds]
    · rw [Array.getElem_push, Array.getElem_push]
      split
      · rename_i h; subst h; simp
      · split <;> first | rfl | (simp at h2; omega)
    · simpa using h1
theorem run_insert (w : World) (k v : ByteArray) (es : Array MapEntry) (c : Nat) (hn : Instr.findNow .string (.string k) es.toList 0 = some none) :
    (Instr.mapUpdate 36 (.map (some w.heap.size)) (.string k) (.string v)).run Tryd.prog (w.alloc (.map es c)) = .ok () (w.alloc (.map (es.push ⟨.string k, .string v, c⟩) (c + 1))) := by
  have hm : (w.alloc (.map es c)).heap[w.heap.size]? = some (.map es c) := heap_alloc_new w _
  have hg : (getObj w.heap.size).run Tryd.prog (w.alloc (.map es c)) = .ok (.map es c) (w.alloc (.map es c)) := MapKept.run_getObj_map hm
  have hf : (Instr.findKey 9 (.string k) es.toList).run Tryd.prog (w.alloc (.map es c)) = .ok none (w.alloc (.map es c)) := by
    simp only [Instr.findKey, Sem.run_bind, run_underlying Tryd.underlying9, Result.andThen_ok, hn]
    rfl
  have hs : ∀ o, (setObj w.heap.size o).run Tryd.prog (w.alloc (.map es c)) = .ok () (w.alloc o) := by
    intro o
    rw [MapKept.run_setObj_map o hm, heap_put]; rfl
  unfold Instr.mapUpdate; simp only [Sem.run_bind, run_underlying Tryd.underlying36, Result.andThen_ok, hg, run_checkStr, hf, hs]
set_option maxRecDepth 100000 in
set_option maxHeartbeats 1000000 in
theorem closing_any (w : World) :
    Calls Tryd.prog 9 #[] w fun e w' => e = .returned (.map (some w.heap.size)) ∧ w.alloc (.map closers 3) = w' := by
  have hmm := @run_makeMap Tryd.prog
  have i0 := run_insert w ⟨#[40]⟩ ⟨#[41]⟩ #[] 0 rfl
  have i1 := run_insert w ⟨#[91]⟩ ⟨#[93]⟩ #[⟨.string ⟨#[40]⟩, .string ⟨#[41]⟩, 0⟩] 1 rfl
  have i2 := run_insert w ⟨#[123]⟩ ⟨#[125]⟩ #[⟨.string ⟨#[40]⟩, .string ⟨#[41]⟩, 0⟩, ⟨.string ⟨#[91]⟩, .string ⟨#[93]⟩, 1⟩] 2 rfl
  go_enter Tryd.func9, Tryd.ntmps9
  go_wp2
  go_ret
  exact ⟨rfl, rfl⟩
end Go.Proofs.YtpomgledekkjjaaDoor
