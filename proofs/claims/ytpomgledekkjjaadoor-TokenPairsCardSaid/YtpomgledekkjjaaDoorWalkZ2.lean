/-
  WALKS: token.Join.
-/
import Derived.Test.YtpomgledekkjjaaDoorWalkZ
import Derived.Deep.QuietTactic
namespace Go.Proofs.YtpomgledekkjjaaDoor
open Go.RowKit Mist
attribute [local go_sem] ofL_extract ofL_size ofL_get ofL_bytes ofL_append spaces_len
end Go.Proofs.YtpomgledekkjjaaDoor
