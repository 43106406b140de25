/-
  A part of the proof.
-/
import Derived.Test.YtflnfhhgamldhaaGreatDoorS36
import Derived.Test.YtflnfhhgamldhaaGreatDoorS41
set_option linter.all false
set_option maxRecDepth 100000
namespace Go.Proofs.YtflnfhhgamldhaaGreatDoor
open Go.ChangeShapes Go.WideShapes Go.ChangeAt Go.RowKit Go.MapKept Go.ChangeMaps Mist
theorem MJ:Rows.PrintSamesSaid :=
 OpenClaim.holds_of_wide 3 Tryz.f3 rfl rfl rfl rfl rfl rfl rfl ⟨rfl,rfl,rfl,rfl,rfl⟩ rfl rfl rfl rfl rfl Ih Tryz.func3 aaH
  (of_decide_eq_true (by kernel_rfl)) (by unfold Func.isWrapper;first|(rw [if_pos (by decide +kernel)];kernel_rfl)|(rw [if_neg (by decide +kernel)];exact⟨rfl,rfl⟩))
  (fun os started H enc _=>Gc os started H enc)
theorem psames_holds:Rows.PrintSamesCardSaid :=
 Claim7.holds_tied_plain_at .later [] [.data, .data, .data, .sentinel, .sentinel, .listed, .data] true (true, "1cae387ebe11c1817660773e374ac61a1c3a6f8f1899ab37724117e515e8dee4") true MJ (fun _ h => by cases h) Vp (fun _ h => by cases h) printSames_row_tie rfl ⟨rfl, rfl⟩ Vq rfl
  (fun f d e b=>by
   obtain rfl:f=3:=ak6 (Ih.symm.trans e) |>.symm
   obtain rfl:d=Tryz.f3:=(ak6 (Tryz.func3.symm.trans b)).symm
   exact⟨Vr,fun j t c=>by
    rw [Tryz.params3] at c
    have g:t ∈ [9]:=by simpa using Array.mem_of_getElem? c
    have a:([9].all fun u=>!Tryz.prog.wantsStandIn u)=true:=by kernel_rfl
    exact (show Tryz.prog.wantsStandIn t=false by simpa using ak8.1 a t g)⟩)
  Vs
