/-
  A part of the proof.
-/
import Derived.Test.YtajfdjikimiapaaGreatDoorW03
import Derived.Test.YtajfdjikimiapaaGreatDoorW04
set_option linter.all false
set_option maxRecDepth 100000
namespace Go.Proofs.YtajfdjikimiapaaGreatDoor
open Go.ChangeShapes Go.WideShapes Go.ChangeAt Go.RowKit Go.MapKept Go.ChangeMaps Mist
theorem aL:Rows.PrintFoldsSaid :=
 OpenClaim.holds_of_wide 3 Tryz.f3 rfl rfl rfl rfl rfl rfl rfl ⟨rfl,rfl,rfl,rfl,rfl⟩ rfl rfl rfl rfl rfl aJ Tryz.func3 fE
  (of_decide_eq_true (by kernel_rfl)) (by unfold Func.isWrapper;first|(rw [if_pos (by decide +kernel)];kernel_rfl)|(rw [if_neg (by decide +kernel)];exact⟨rfl,rfl⟩))
  (fun os started H enc _=>aC os started H enc)
theorem pfolds_holds:Rows.PrintFoldsCardSaid :=
 Claim7.holds_tied_plain_at .later [] [.data, .data, .data, .sentinel, .sentinel, .listed, .data] true (true, "dced9aa2cef21ff1927132982bf1538a30495a84a459fedb6b2f37b78633f4a3") true aL (fun _ h => by cases h) bn (fun _ h => by cases h) printFolds_row_tie rfl ⟨rfl, rfl⟩ bq rfl
  (fun f d e b=>by
   obtain rfl:f=3:=aiB (aJ.symm.trans e) |>.symm
   obtain rfl:d=Tryz.f3:=(aiB (Tryz.func3.symm.trans b)).symm
   exact⟨bA,fun j t c=>by
    rw [Tryz.params3] at c
    have g:t ∈ [25,3]:=by simpa using Array.mem_of_getElem? c
    have a:([25,3].all fun u=>!Tryz.prog.wantsStandIn u)=true:=by kernel_rfl
    exact (show Tryz.prog.wantsStandIn t=false by simpa using aiD.1 a t g)⟩)
  bB
