/-
  A part of the proof.
-/
import Derived.Test.YthepmkjggfijoaaGreatDoorSA
import Derived.Test.YthepmkjggfijoaaGreatDoorS04
set_option linter.all false
set_option maxRecDepth 100000
namespace Mist
section
variable (l:List Tok) (en:Int)
end
section
variable {l:List Tok} {en:Int}
end
end Mist
namespace Mist
section
variable (l:List Tok)
end
section
variable {l:List Tok} {k M M1:Nat} {ns:List Nd}
variable {en:Int}
end
end Mist
namespace Mist
section
variable {l:List Tok} {en:Int}
end
section
variable (l:List Tok)
end
section
variable {l:List Tok} {en:Int} {k M:Nat} {ns:List Nd}
section
variable (hK:∀ t ∈ l,Mist.kind t.text=t.kind)
include hK
end
end
end Mist
