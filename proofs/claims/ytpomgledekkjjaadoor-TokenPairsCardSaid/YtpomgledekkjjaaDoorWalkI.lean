/-
  WALKS, ninth part: mistref02.Read.
-/
import Derived.Test.YtpomgledekkjjaaDoorWalkH
import Derived.Deep.RegionHeld3
import Derived.StillTactics
import Derived.Laws.Pointers
namespace Go.Proofs.YtpomgledekkjjaaDoor
open Go.RowKit Mist
attribute [local go_sem] ofL_extract ofL_size ofL_get ofL_bytes ofL_append
end Go.Proofs.YtpomgledekkjjaaDoor
