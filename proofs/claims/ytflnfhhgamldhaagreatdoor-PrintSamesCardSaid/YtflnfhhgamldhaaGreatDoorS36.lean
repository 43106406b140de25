/-
  A part of the proof.
-/
import Derived.Test.YtflnfhhgamldhaaGreatDoorSA
import Derived.Test.YtflnfhhgamldhaaGreatDoorTie
import Derived.Test.YtflnfhhgamldhaaGreatDoorCards
set_option linter.all false
set_option maxRecDepth 100000
namespace Go.Proofs.YtflnfhhgamldhaaGreatDoor
theorem Vt:(Rows.printSamesRow.inPlace == Tryz.prog.inPlace 3)=true:=by kernel_rfl
theorem Vu:(Rows.printSamesRow.unfollowed == Tryz.prog.unfollowed 3)=true:=by kernel_rfl
theorem Vv:(Rows.printSamesRow.recurses == Tryz.prog.recurses 3)=true:=by kernel_rfl
theorem Vw:(Rows.printSamesRow.named == Tryz.prog.varsNamed 3)=true:=by kernel_rfl
theorem Vx:laidOutB Tryz.prog=true:=by kernel_rfl
theorem Vy:mapsRowed Tryz.prog=true:=by kernel_rfl
theorem Vz:(Tryz.prog.stops == [])=true:=by kernel_rfl
theorem VA:(Tryz.prog.stopKnobs == [])=true:=by kernel_rfl
theorem VB:(Rows.printSamesRow.lifted == Tryz.prog.liftsFinal)=true:=by kernel_rfl
theorem VD:(Rows.printSamesRow.plainKeys == Tryz.prog.plainKeys)=true:=by kernel_rfl
theorem VE:Tryz.prog.stopsHeard=true:=by kernel_rfl
theorem VF:Tryz.prog.mayEnter=true:=by kernel_rfl
theorem VG:(Tryz.prog.make == some Rows.printSamesRow.make)=true:=by kernel_rfl
theorem VH:Rows.printSamesRow.wf (OpenSpec.ofChange Rows.printSamesSpec)=true:=by kernel_rfl
theorem aaH:joinedFacts Tryz.prog 3 Tryz.f3 Rows.printSamesSpec Rows.printSamesRow=true:=by
 unfold joinedFacts;rw [Vt,Vu,Vv,Vw,Vx,Vy,Vz,VA,VB,VD,VE,VF,VG,VH]
 kernel_rfl
theorem Ih : Tryz.prog.funcNamed "mist/mistlaw04.PrintSames" = some 3 := by kernel_rfl
theorem Vp:Rows.printSamesRow.wfByText (OpenSpec.ofChange Rows.printSamesSpec)=true:=by kernel_rfl
theorem Vq : Tryz.prog.mainIs = some (true, "1cae387ebe11c1817660773e374ac61a1c3a6f8f1899ab37724117e515e8dee4".toList) := by kernel_rfl
theorem Vr:true=Tryz.prog.looks []:=by kernel_rfl
theorem Vs:false=Rows.printSamesRow.goesBy Tryz.prog:=by kernel_rfl
