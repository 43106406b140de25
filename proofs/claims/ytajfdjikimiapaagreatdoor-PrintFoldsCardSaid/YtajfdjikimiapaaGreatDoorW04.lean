/-
  A part of the proof.
-/
import Derived.Test.YtajfdjikimiapaaGreatDoorSA
import Derived.Test.YtajfdjikimiapaaGreatDoorTie
import Derived.Test.YtajfdjikimiapaaGreatDoorCards
set_option linter.all false
set_option maxRecDepth 100000
namespace Go.Proofs.YtajfdjikimiapaaGreatDoor
theorem bC:(Rows.printFoldsRow.inPlace == Tryz.prog.inPlace 3)=true:=by kernel_rfl
theorem bE:(Rows.printFoldsRow.unfollowed == Tryz.prog.unfollowed 3)=true:=by kernel_rfl
theorem bF:(Rows.printFoldsRow.recurses == Tryz.prog.recurses 3)=true:=by kernel_rfl
theorem bK:(Rows.printFoldsRow.named == Tryz.prog.varsNamed 3)=true:=by kernel_rfl
theorem bL:laidOutB Tryz.prog=true:=by kernel_rfl
theorem bN:mapsRowed Tryz.prog=true:=by kernel_rfl
theorem bO:(Tryz.prog.stops == [])=true:=by kernel_rfl
theorem bP:(Tryz.prog.stopKnobs == [])=true:=by kernel_rfl
theorem bR:(Rows.printFoldsRow.lifted == Tryz.prog.liftsFinal)=true:=by kernel_rfl
theorem bS:(Rows.printFoldsRow.plainKeys == Tryz.prog.plainKeys)=true:=by kernel_rfl
theorem bT:Tryz.prog.stopsHeard=true:=by kernel_rfl
theorem bV:Tryz.prog.mayEnter=true:=by kernel_rfl
theorem bX:(Tryz.prog.make == some Rows.printFoldsRow.make)=true:=by kernel_rfl
theorem bZ:Rows.printFoldsRow.wf (OpenSpec.ofChange Rows.printFoldsSpec)=true:=by kernel_rfl
theorem fE:joinedFacts Tryz.prog 3 Tryz.f3 Rows.printFoldsSpec Rows.printFoldsRow=true:=by
 unfold joinedFacts;rw [bC,bE,bF,bK,bL,bN,bO,bP,bR,bS,bT,bV,bX,bZ]
 kernel_rfl
theorem aJ : Tryz.prog.funcNamed "mist/mistlaw04.PrintFolds" = some 3 := by kernel_rfl
theorem bn:Rows.printFoldsRow.wfByText (OpenSpec.ofChange Rows.printFoldsSpec)=true:=by kernel_rfl
theorem bq : Tryz.prog.mainIs = some (true, "dced9aa2cef21ff1927132982bf1538a30495a84a459fedb6b2f37b78633f4a3".toList) := by kernel_rfl
theorem bA:true=Tryz.prog.looks []:=by kernel_rfl
theorem bB:false=Rows.printFoldsRow.goesBy Tryz.prog:=by kernel_rfl
