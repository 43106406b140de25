/-
  A part of the proof.
-/
import Derived.Test.YtajfdjikimiapaaGreatDoorV04
import Derived.Test.YtajfdjikimiapaaGreatDoorV05
set_option linter.all false
set_option maxRecDepth 100000
namespace Go.Proofs.YtajfdjikimiapaaGreatDoor
open Go.ChangeShapes Go.WideShapes Go.ChangeAt Go.RowKit Go.MapKept Go.ChangeMaps Mist
theorem bP:Rows.PrintTextsSaid :=
 OpenClaim.holds_of_wide 4 Tryz.f4 rfl rfl rfl rfl rfl rfl rfl ⟨rfl,rfl,rfl,rfl,rfl⟩ rfl rfl rfl rfl rfl bB Tryz.func4 pK
  (of_decide_eq_true (by kernel_rfl)) (by unfold Func.isWrapper;first|(rw [if_pos (by decide +kernel)];kernel_rfl)|(rw [if_neg (by decide +kernel)];exact⟨rfl,rfl⟩))
  (fun os started H enc _=>aT os started H enc)
theorem ptexts_holds:Rows.PrintTextsCardSaid :=
 Claim7.holds_tied_plain_at .later [] [.data, .data, .data, .sentinel, .sentinel, .listed, .data] true (true, "dced9aa2cef21ff1927132982bf1538a30495a84a459fedb6b2f37b78633f4a3") true bP (fun _ h => by cases h) fE (fun _ h => by cases h) printTexts_row_tie rfl ⟨rfl, rfl⟩ gq rfl
  (fun f d e b=>by
   obtain rfl:f=4:=aiB (bB.symm.trans e) |>.symm
   obtain rfl:d=Tryz.f4:=(aiB (Tryz.func4.symm.trans b)).symm
   exact⟨gK,fun j t c=>by
    rw [Tryz.params4] at c
    have g:t ∈ [25,3]:=by simpa using Array.mem_of_getElem? c
    have a:([25,3].all fun u=>!Tryz.prog.wantsStandIn u)=true:=by kernel_rfl
    exact (show Tryz.prog.wantsStandIn t=false by simpa using aiD.1 a t g)⟩)
  iE
