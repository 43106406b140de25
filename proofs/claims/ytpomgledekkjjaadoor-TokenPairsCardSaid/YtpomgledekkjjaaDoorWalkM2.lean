/-
  WALKS: the law package's same.
-/
import Derived.Test.YtpomgledekkjjaaDoorWalkT
namespace Go.Proofs.YtpomgledekkjjaaDoor
open Go.RowKit Mist
attribute [local go_sem] ofL_extract ofL_size ofL_get ofL_bytes ofL_append
end Go.Proofs.YtpomgledekkjjaaDoor
