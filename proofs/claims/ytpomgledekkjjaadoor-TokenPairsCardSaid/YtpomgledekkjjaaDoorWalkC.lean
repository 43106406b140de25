/-
  WALKS, third part: the lists of keywords and signs; mistref02.In; token.first, mistref02.First.
-/
import Derived.Test.YtpomgledekkjjaaDoorWalkB
import Derived.Test.YtpomgledekkjjaaDoorShelf
import Derived.Lib.AppendIntMem
import Derived.Lib.SmallJoins
namespace Go.Proofs.YtpomgledekkjjaaDoor
open Go.RowKit Mist
attribute [local go_sem] ofL_extract ofL_size ofL_get ofL_bytes
/-- The table of blanks that strings.Fields reads stands, and stays where only new blocks come. -/
def Env (w : World) : Prop := ∃ B, B ≤ w.heap.size ∧ Lib.TabBelow Tryd.prog B w "strings.asciiSpace" IntKind.u8 Lib.asciiSpaceTab
theorem Env.tab {w : World} (h : Env w) : Lib.TabIs Tryd.prog w "strings.asciiSpace" IntKind.u8 Lib.asciiSpaceTab := by
  obtain ⟨B, _, h⟩ := h
  exact h.here
theorem Env.below {w w' : World} (h : Env w) (hb : Below w.heap.size w w') : Env w' := by
  obtain ⟨B, hB, h⟩ := h
  exact ⟨B, Nat.le_trans hB hb.size, fun w'' hb' => h w'' ((hb.mono hB).trans hb')⟩
theorem Env.alloc {w : World} (h : Env w) (o : Obj) : Env (w.alloc o) := h.below ((Below.refl _ _).alloc (Nat.le_refl _) o)
theorem Env.drew {w : World} (h : Env w) : Env w.drew := h.below ((Below.refl _ _).drew)
/-- The cells of a list of texts. -/
def strRow (l : List Bs) : Array Value := (l.map fun x => Value.string (ofL x)).toArray
theorem strRow_size (l : List Bs) : (strRow l).size = l.length := by simp [strRow]
theorem strRow_get (l : List Bs) (i : Nat) (h : i < l.length) : (strRow l)[i]? = some (.string (ofL (sg l i))) := by
  simp [strRow, sg, h]
theorem ascii_ok (l : List UInt8) (h : l.all (fun b => decide (b.toNat < 128)) = true) : ∀ (j : Nat) (b : UInt8), l[j]? = some b → b.toNat < 128 := by
  intro j b hb
  have := List.all_eq_true.1 h b (List.mem_of_getElem? hb)
  simpa using this
set_option maxRecDepth 100000 in
theorem keywords_fields : Lib.fields [97, 110, 100, 32, 97, 115, 107, 32, 98, 108, 97, 109, 101, 32, 98, 111, 111, 108, 32, 98, 111, 117, 110, 100, 115, 32, 99, 104, 111, 111, 115, 101, 32, 99, 111, 117, 110, 116, 32, 101, 108, 115, 101, 32, 102, 97, 108, 115, 101, 32, 102, 117, 110, 32, 105, 102, 32, 105, 110, 32, 105, 110, 116, 32, 108, 101, 116, 32, 108, 111, 111, 107, 32, 109, 97, 121, 32, 109, 117, 115, 116, 32, 110, 111, 116, 32, 111, 98, 115, 101, 114, 118, 101, 32, 111, 114, 32, 114, 101, 116, 114, 97, 99, 116, 32, 116, 104, 101, 110, 32, 116, 114, 117, 101, 32, 116, 121, 112, 101, 32, 117, 112, 116, 111, 32, 118, 97, 108, 117, 101, 115, 32, 119, 104, 121] = keywords := by decide +kernel
set_option maxRecDepth 100000 in
theorem signs_fields : Lib.fields [61, 61, 32, 33, 61, 32, 60, 61, 32, 62, 61, 32, 46, 46, 32, 43, 32, 45, 32, 42, 32, 47, 32, 37, 32, 60, 32, 62, 32, 61, 32, 40, 32, 41, 32, 91, 32, 93, 32, 123, 32, 125, 32, 44, 32, 58, 32, 59, 32, 46] = signs := by decide +kernel
set_option maxRecDepth 100000 in
set_option maxHeartbeats 1000000 in
theorem keywords_any (w : World) (hE : Env w) :
    Calls Tryd.prog 30 #[] w fun e w' => e = .returned (.slice (some ⟨w.heap.size, 0, none⟩) 27 27) ∧ w.alloc (.cells (strRow keywords) 9) = w' := by
  go_enter Tryd.func30, Tryd.ntmps30
  go_wp2_with (go_at_call 38; refine (Tryd.strings_Fields_laid _ _ ?c1 ?c2 hE.tab).mono ?_)
  case c1 => decide +kernel
  case c2 => exact ascii_ok _ (by decide +kernel)
  · go_ret
    simp only [keywords_fields]
    exact ⟨rfl, rfl⟩
set_option maxRecDepth 100000 in
set_option maxHeartbeats 1000000 in
theorem signs_any (w : World) (hE : Env w) :
    Calls Tryd.prog 33 #[] w fun e w' => e = .returned (.slice (some ⟨w.heap.size, 0, none⟩) 23 23) ∧ w.alloc (.cells (strRow signs) 9) = w' := by
  go_enter Tryd.func33, Tryd.ntmps33
  go_wp2_with (go_at_call 38; refine (Tryd.strings_Fields_laid _ _ ?c1 ?c2 hE.tab).mono ?_)
  case c1 => decide +kernel
  case c2 => exact ascii_ok _ (by decide +kernel)
  · go_ret
    simp only [signs_fields]
    exact ⟨rfl, rfl⟩
end Go.Proofs.YtpomgledekkjjaaDoor
