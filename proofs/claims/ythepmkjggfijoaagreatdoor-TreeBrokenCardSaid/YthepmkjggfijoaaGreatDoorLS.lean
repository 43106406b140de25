/-
  A part of the proof.
-/
import Derived.Test.YthepmkjggfijoaaGreatDoorSA
import Derived.ProofKit
import Derived.OpenShut
import Derived.LaidMore
import Derived.Lay
import Derived.SevenTiedAt
import Derived.Stop.Joined
import Derived.Carry
import Derived.RowKit
import Derived.Lib.LaidTab
import Derived.Deep.Slices
import Derived.SizedLaws
import Derived.ChangeOld
import Derived.Test.YthepmkjggfijoaaGreatDoorTie
import Derived.Test.YthepmkjggfijoaaGreatDoorS01
import Derived.Test.YthepmkjggfijoaaGreatDoorS04
import Derived.Test.YthepmkjggfijoaaGreatDoorS05
import Derived.Test.YthepmkjggfijoaaGreatDoorS20
import Derived.Test.YthepmkjggfijoaaGreatDoorS28
set_option linter.all false
set_option maxRecDepth 100000
namespace Go.Proofs.YthepmkjggfijoaaGreatDoor
open Go.ChangeShapes Go.WideShapes Go.ChangeAt Go.RowKit
set_option maxRecDepth 100000
theorem own_knob:ownKnob Tryz.prog.godebug=none:=by kernel_rfl
theorem BA {P:Program}{w:World}:∀ {l:List (String × DataW Unit)} {ps:List MemPlace},DataW.LaidVars P w l ps→∀ n d,(n,d) ∈ l →
  ∃ g t cs a p,P.globalNamed n=some g∧(P.globals[g]?).map (·.type)=some t∧w.var? P n=some cs∧DataW.trod (fun _=>()) P w 0 (fun _=>true) false a t cs.toList=some (d,p)
 | [],_,_,_,_,h=>by cases h
 | (n,d) :: r,ps,h,n',d',hm=>by
  obtain⟨g,t,cs,a,p,q,h1,h2,h3,h4,h5,_⟩:=h;rcases List.mem_cons.1 hm with b | c
  ·cases b;exact⟨g,t,cs,a,p,h1,h2,h3,h4⟩
  ·exact BA h5 n' d' c
theorem PO {P:Program}{W:World}{l:List (String × DataW Unit)}{a:String}{k:IntKind}{o:List Int}{g:Nat}{t e:TypeId}{n:Nat}
  (r:P.globalNamed a=some g) (j:(P.globals[g]?).map (·.type)=some t) (v:P.underlying t=some (.array n e)) (q:P.underlying e=some (.int k)) (c:P.cellsOf e=1) (d:P.cellsOf t=n)
  (h:laidMet P l W) (u:(a,Lib.tabData k o) ∈ l):Lib.TabIs P W a k o:=by
 obtain⟨ps,hv,_⟩:=h;obtain⟨g',w,cs,m,p,f,i,b,hd⟩:=BA hv _ _ u;obtain rfl:=aaP (r.symm.trans f);obtain rfl:=aaP (j.symm.trans i);unfold Lib.TabIs;rw [b,← Lib.cells_of_tab v q c d hd]
theorem zI {H:Type}{enc:TypeId × Value→H}{P:Program}(j:laidOutB P=true){W g:World}(i:Below W.heap.size W g) :
  ∀ {a:List TypeId} {f:List Value} {c:List (DataW H)} {ps:List MemPlace},(a.all fun t=>P.readableRec t && decide (t < P.types.size))=true→DataW.TrodAll enc P W 0 (fun _=>true) true a f c ps→(∀ x ∈ ps,x.block < W.heap.size) →
   DataW.TrodAll enc P g 0 (fun b=>decide (b < W.heap.size)) true a f c ps
 | [],[],[],_,_,h,_=>h
 | t :: a,v :: f,d :: c,ps,ha,h,hlt=>by
  obtain⟨p,q,h1,h2,rfl⟩:=h;simp only [List.all_cons,aaS,decide_eq_true_eq] at ha
  exact⟨p,q,Below.trod j ha.1.1 ha.1.2 h1 i (fun x e=>hlt x (List.mem_append_left _ e)),zI j i ha.2 h2 (fun x e=>hlt x (List.mem_append_right _ e)),rfl⟩
 | [],_ :: _,_,_,_,h,_=>h.elim
 | [],[],_ :: _,_,_,h,_=>h.elim
 | _ :: _,[],_,_,_,h,_=>h.elim
 | _ :: _,_ :: _,[],_,_,h,_=>h.elim
theorem post_true {H:Type}{enc:TypeId × Value→H}{P:Program}{f:Func}{s:ChangeSpec}{apart a handsOn:Bool}{W i:World}{args:Array Value}{c d:List (DataW H)}{before:List MemPlace}{t:TypeId}
  (l:laidOutB P=true) (m:(f.params.toList.all fun t=>P.readableRec t && decide (t < P.types.size))=true) (hv:s.vars=[]) (g:f.resultTypes=#[t]) (n:P.underlying t=some .bool)
  (b:s.fn H (c ++ d)={ results:=[.lit (.bool true)],args:=c })
  (e:DataW.Whole enc P f.params.toList s.vars apart W args.toList c d before) (j:Below W.heap.size W i) :
  s.post enc P f apart a handsOn false W args (.bool true) i:=by
 obtain⟨p,q,k,r,rfl,_,_⟩:=id e
 refine⟨c,d,_,[],p,[],e,?_,?_,?_,Below.frame j _,fun h=>by cases h⟩
 ·rw [b,g];exact trodAll_mk1 (shut_bool n true)
 ·rw [b];exact zI l j m k (fun x o=>e.lt x (List.mem_append_left _ o))
 ·rw [b,hv];exact rfl
theorem laid_out:laidOutB Tryz.prog=true:=by kernel_rfl
theorem bool_row:Tryz.prog.underlying 4=some .bool:=by kernel_rfl
theorem Tj:(Rows.laid_strings_asciiSpace:DataW Unit)=Lib.tabData IntKind.u8 Lib.asciiSpaceTab:=by kernel_rfl
theorem env_of_laid {l : List (String × DataW Unit)} {w : World} (h : laidMet Tryz.prog l w) (a : ("strings.asciiSpace", Rows.laid_strings_asciiSpace) ∈ l) : Env w := by
 rw [Tj] at a
 refine⟨w.heap.size,aaJ _,Lib.tabBelow_of_tabIs (PO (g:=0) (t:=179) (e:=5) (n:=256) (by kernel_rfl) (by kernel_rfl) (by kernel_rfl) (by kernel_rfl) (by kernel_rfl) (by kernel_rfl) h a)⟩
end Go.Proofs.YthepmkjggfijoaaGreatDoor
namespace Go.Proofs.YthepmkjggfijoaaGreatDoor
open Go.ChangeShapes Go.WideShapes Go.ChangeAt Go.RowKit Go.MapKept Go.ChangeMaps Mist
set_option maxRecDepth 100000
theorem Tw:Tryz.prog.underlying 5=some (.int .u8):=by kernel_rfl
theorem Zh:Tryz.prog.cellsOf 5=1:=by kernel_rfl
end Go.Proofs.YthepmkjggfijoaaGreatDoor
namespace Go.Proofs.YthepmkjggfijoaaGreatDoor
open Go.RowKit Mist
end Go.Proofs.YthepmkjggfijoaaGreatDoor
