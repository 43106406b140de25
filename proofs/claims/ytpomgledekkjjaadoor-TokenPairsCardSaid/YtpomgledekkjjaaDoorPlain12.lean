/-
  PLAIN FUNCTIONS: the pieces out of which the laws make tokens and texts.
-/
import Derived.Test.YtpomgledekkjjaaDoorPlain7
namespace Mist
def aloneSigns : List Bs := [[40],[41],[91],[93],[123],[125],[44],[59],[58],[43],[45]]
def aloneB (x : Bs) : Bool := hasB aloneSigns x
def gapTexts : List Bs := [[32],[10],[32,32],[32,35,32,120,59,32,121,10],[35,10],[10,10,32],[35,32,35,32,40,10,32],[32,32,32]]
def gapOf (b : Nat) : Bs := sg gapTexts (b % 8)
def pieces : List Tok := [⟨1,[97],0⟩,⟨1,[98,55],0⟩,⟨1,[105,102,102],0⟩,⟨1,[97,98,99,100,101,102,103,104,105,106,107,108],0⟩,⟨2,[48],0⟩,⟨2,[55],0⟩,⟨2,[57,57,57,57],0⟩,⟨3,[105,102],0⟩,⟨3,[108,101,116],0⟩,⟨3,[111,98,115,101,114,118,101],0⟩,⟨3,[118,97,108,117,101,115],0⟩,⟨3,[116,114,117,101],0⟩,
  ⟨4,[43],0⟩,⟨4,[45],0⟩,⟨4,[61,61],0⟩,⟨4,[33,61],0⟩,⟨4,[60],0⟩,⟨4,[60,61],0⟩,⟨4,[62],0⟩,⟨4,[61],0⟩,⟨4,[46],0⟩,⟨4,[46,46],0⟩,⟨4,[58],0⟩,⟨4,[44],0⟩,⟨4,[59],0⟩,⟨4,[40],0⟩,⟨4,[41],0⟩,⟨4,[91],0⟩,⟨4,[93],0⟩,⟨4,[123],0⟩,⟨4,[125],0⟩]
theorem alone_cases (x : Bs) : (aloneB x = true ∧ x ∈ aloneSigns) ∨ (aloneB x = false ∧ ∀ g ∈ aloneSigns, (x == g) = false) := by
  by_cases h : x ∈ aloneSigns
  · exact .inl ⟨by unfold aloneB hasB; simpa using h, h⟩
  · refine .inr ⟨by unfold aloneB hasB; simpa using h, fun g hg => ?_⟩
    rw [Bool.eq_false_iff]; intro e
    exact h (by rw [eq_of_beq e]; exact hg)
end Mist
