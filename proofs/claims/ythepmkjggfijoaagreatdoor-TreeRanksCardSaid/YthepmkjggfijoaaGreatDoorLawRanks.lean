/-
  THE WALK of the law TreeRanks: the program's Rank and the reference's are the same function.
-/
import Derived.Test.YthepmkjggfijoaaGreatDoorB34
import Derived.Deep.RegionHeld3
namespace Go.Proofs.YthepmkjggfijoaaGreatDoor
open Go.RowKit Mist
set_option maxRecDepth 100000 in
set_option maxHeartbeats 1000000 in
theorem ranks_law (k : Nat) (w : World) (hE : Env w) (_ : k < 256) : Calls Tryz.prog 6 #[.int .u8 k] w fun e w' => e = .returned (.bool true) ∧ Below w.heap.size w w' := by
  have HE := Lib.hid hE; clear hE
  go_enter Tryz.func6, Tryz.ntmps6
  go_wp2_with fail
  refine (rank_any k _).mono ?_
  rintro e w1 ⟨rfl, hb1⟩
  have HB1 := Lib.hid hb1; clear hb1
  go_wp2_with fail
  refine (rrank_any k _).mono ?_
  rintro e w2 ⟨rfl, hb2⟩
  have HB2 := Lib.hid (HB1.out.trans (hb2.mono HB1.out.size)); clear hb2
  obtain ⟨a, ha⟩ : ∃ a, a = (rankOf k).1 := ⟨_, rfl⟩
  obtain ⟨b, hb⟩ : ∃ b, b = (rankOf k).2 := ⟨_, rfl⟩
  rw [← ha, ← hb]
  clear ha hb
  have e1 : ((a : Int) == (a : Int)) = true := by simp
  have e2 : ((b : Int) == (b : Int)) = true := by simp
  go_wp2_with fail
  refine (known_any _ (HE.out.below HB2.out)).mono ?_
  rintro e w3 ⟨rfl, hb3⟩
  have HB3 := Lib.hid (HB2.out.trans (hb3.mono HB2.out.size)); clear hb3
  go_wp2_with fail
  go_ret
  exact ⟨by first | rfl | simp, HB3.out⟩
end Go.Proofs.YthepmkjggfijoaaGreatDoor
