/-
  A part of the proof.
-/
import Derived.Test.YtflnfhhgamldhaaGreatDoorS39
set_option linter.all false
set_option maxRecDepth 100000
set_option maxHeartbeats 4000000
set_option linter.all false
namespace Go.Proofs.YtflnfhhgamldhaaGreatDoor
section
open Go.RowKit Mist
attribute [local go_sem] ah aM aV au ak
theorem Qz (s t:Bs)(w:World)(C:Env w)(m:Pow w) :
  Calls Tryz.prog 3 #[.string (aH s),.string (aH t)] w fun e K=>e=.returned (.bool true)∧Below w.heap.size w K:=by
 have r:=O C;have v:=O m;clear C m;by_cases h5:5000 < s.length
 ·have I:decide (5000 < s.length)=true:=ak' h5;have x:decide (5000 < (s.length:Int))=true:=ak' (by omega);clear h5;go_in
  go_wp2_with fail;refine (Jw r.o v.o).mono ?_;rintro e H⟨rfl,a⟩;go_wp2_with fail;go_ret;exact⟨rfl,a⟩
 ·have I:decide (5000 < s.length)=false:=ala h5;have x:decide (5000 < (s.length:Int))=false:=ala (by omega);by_cases h6:5000 < t.length
  ·have J:decide (5000 < t.length)=true:=ak' h6;have y:decide (5000 < (t.length:Int))=true:=ak' (by omega);clear h5 h6;go_in
   go_wp2_with fail;refine (Jw r.o v.o).mono ?_;rintro e H⟨rfl,a⟩;go_wp2_with fail;go_ret;exact⟨rfl,a⟩
  ·have J:decide (5000 < t.length)=false:=ala h6;have y:decide (5000 < (t.length:Int))=false:=ala (by omega);obtain⟨T,X,E,f,d,c,m,G⟩:=ES s (by omega);obtain⟨U,Y,F,i,h,g,n,q⟩:=ES t (by omega);have A:=O (Yt m n c g ⟨f,d⟩ ⟨i,h⟩ r.o);have B:=O fun W=>abJ (W:=W) G q c g ⟨f,d⟩ ⟨i,h⟩
   obtain⟨R,D⟩:∃ R,R=nQ T U E F:=⟨_,rfl⟩;rw [← D] at A B
   obtain⟨r1,r2⟩:=R;clear h5 h6 D m G n q c g f d i h;go_in
   go_wp2_with fail;refine A.o.mono ?_;rintro e w1⟨rfl,k⟩;have j:=O k;clear k;go_wp2_with fail;refine (B.o w1).mono ?_;rintro e H⟨rfl,a⟩;have b:=O (j.o.trans (a.mono j.o.size));clear a;go_wp2_with (go_at_call 4;refine (Jw (r.o.below b.o) (v.o.on b.o)).mono ?_)
   rintro e L⟨rfl,l⟩;have u:=O (b.o.trans (l.mono b.o.size));clear l;go_wp2_with fail;go_ret;exact⟨rfl,u.o⟩
end
section
open Go.ChangeShapes Go.WideShapes Go.ChangeAt Go.RowKit Go.MapKept Go.ChangeMaps Mist
theorem Vm:(Rows.laid_internal_strconv_uint64pow10:DataW Unit)=Lib.tabData IntKind.u64 Lib.pow10Tab:=by kernel_rfl
theorem JO {l : List (String × DataW Unit)} {w : World} (h : laidMet Tryz.prog l w) (a : ("internal/strconv.uint64pow10", Rows.laid_internal_strconv_uint64pow10) ∈ l) : Pow w := by
 rw [Vm] at a
 exact Lib.tabBelow_of_tabIs (BM (g:=2) (t:=210) (e:=188) (n:=20) (by kernel_rfl) (by kernel_rfl) (by kernel_rfl) (by kernel_rfl) (by kernel_rfl) (by kernel_rfl) h a)
end
