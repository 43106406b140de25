/-
  A part of the proof.
-/
import Derived.Test.YthepmkjggfijoaaGreatDoorSA
import Derived.Deep.QuietTactic
import Derived.BigRegion
import Derived.Deep.CutRange
import Derived.Deep.RegionHeld3
import Derived.Test.YthepmkjggfijoaaGreatDoorS21
import Derived.Test.YthepmkjggfijoaaGreatDoorS08
import Derived.Test.YthepmkjggfijoaaGreatDoorS25
import Derived.Test.YthepmkjggfijoaaGreatDoorS29
import Derived.Test.YthepmkjggfijoaaGreatDoorS07
import Derived.Test.YthepmkjggfijoaaGreatDoorS28
import Derived.Test.YthepmkjggfijoaaGreatDoorS32
import Derived.Test.YthepmkjggfijoaaGreatDoorL15
set_option linter.all false
set_option maxRecDepth 100000
namespace Go.Proofs.YthepmkjggfijoaaGreatDoor
open Go.RowKit Mist
attribute [local go_sem] aj aH aS aB ak
section
variable {P:Program} {md:Region.Mode} {l:List Oper} {Q:Exit→Act→World→Prop} {S:World→Prop} {oi:Oper} {fuel:Nat} {listed:Array Bool} {a:Act} {w:World}
end
end Go.Proofs.YthepmkjggfijoaaGreatDoor
namespace Go.Proofs.YthepmkjggfijoaaGreatDoor
open Go.RowKit Mist
end Go.Proofs.YthepmkjggfijoaaGreatDoor
namespace Go.Proofs.YthepmkjggfijoaaGreatDoor
open Go.RowKit Mist
attribute [local go_sem] aj aH aS aB ak
end Go.Proofs.YthepmkjggfijoaaGreatDoor
