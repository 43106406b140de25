/-
  A part of the proof.
-/
import Derived.Test.YtajfdjikimiapaaGreatDoorSA
import Derived.Test.YtajfdjikimiapaaGreatDoorTie
import Derived.Test.YtajfdjikimiapaaGreatDoorCards
set_option linter.all false
set_option maxRecDepth 100000
namespace Go.Proofs.YtajfdjikimiapaaGreatDoor
theorem iZ:(Rows.printTextsRow.inPlace == Tryz.prog.inPlace 4)=true:=by kernel_rfl
theorem ji:(Rows.printTextsRow.unfollowed == Tryz.prog.unfollowed 4)=true:=by kernel_rfl
theorem jo:(Rows.printTextsRow.recurses == Tryz.prog.recurses 4)=true:=by kernel_rfl
theorem jv:(Rows.printTextsRow.named == Tryz.prog.varsNamed 4)=true:=by kernel_rfl
theorem jw:laidOutB Tryz.prog=true:=by kernel_rfl
theorem jB:mapsRowed Tryz.prog=true:=by kernel_rfl
theorem jG:(Tryz.prog.stops == [])=true:=by kernel_rfl
theorem kr:(Tryz.prog.stopKnobs == [])=true:=by kernel_rfl
theorem kC:(Rows.printTextsRow.lifted == Tryz.prog.liftsFinal)=true:=by kernel_rfl
theorem kD:(Rows.printTextsRow.plainKeys == Tryz.prog.plainKeys)=true:=by kernel_rfl
theorem lQ:Tryz.prog.stopsHeard=true:=by kernel_rfl
theorem lV:Tryz.prog.mayEnter=true:=by kernel_rfl
theorem lX:(Tryz.prog.make == some Rows.printTextsRow.make)=true:=by kernel_rfl
theorem lY:Rows.printTextsRow.wf (OpenSpec.ofChange Rows.printTextsSpec)=true:=by kernel_rfl
theorem pK:joinedFacts Tryz.prog 4 Tryz.f4 Rows.printTextsSpec Rows.printTextsRow=true:=by
 unfold joinedFacts;rw [iZ,ji,jo,jv,jw,jB,jG,kr,kC,kD,lQ,lV,lX,lY]
 kernel_rfl
theorem bB : Tryz.prog.funcNamed "mist/mistlaw04.PrintTexts" = some 4 := by kernel_rfl
theorem fE:Rows.printTextsRow.wfByText (OpenSpec.ofChange Rows.printTextsSpec)=true:=by kernel_rfl
theorem gq : Tryz.prog.mainIs = some (true, "dced9aa2cef21ff1927132982bf1538a30495a84a459fedb6b2f37b78633f4a3".toList) := by kernel_rfl
theorem gK:true=Tryz.prog.looks []:=by kernel_rfl
theorem iE:false=Rows.printTextsRow.goesBy Tryz.prog:=by kernel_rfl
