/-
  A part of the proof.
-/
import Derived.LaidMore
import Derived.Lay
import Derived.Test.YtflnfhhgamldhaaGreatDoorTie
import Derived.Test.YtflnfhhgamldhaaGreatDoorS30
set_option linter.all false
set_option maxRecDepth 100000
set_option maxHeartbeats 4000000
namespace Go.Proofs.YtflnfhhgamldhaaGreatDoor
section
open Go.ChangeShapes Go.WideShapes Go.ChangeAt Go.RowKit
set_option maxRecDepth 100000
theorem aan:ownKnob Tryz.prog.godebug=none:=by kernel_rfl
theorem xO {P:Program}{w:World}:∀ {l:List (String × DataW Unit)} {ps:List MemPlace},DataW.LaidVars P w l ps→∀ n d,(n,d) ∈ l →
  ∃ g t cs a p,P.globalNamed n=some g∧(P.globals[g]?).map (·.type)=some t∧w.var? P n=some cs∧DataW.trod (fun _=>()) P w 0 (fun _=>true) false a t cs.toList=some (d,p)
 | [],_,_,_,_,h=>by cases h
 | (n,d) :: r,ps,h,n',d',hm=>by
  obtain⟨g,t,cs,a,p,q,h1,h2,h3,h4,h5,_⟩:=h;rcases List.mem_cons.1 hm with b | e
  ·cases b;exact⟨g,t,cs,a,p,h1,h2,h3,h4⟩
  ·exact xO h5 n' d' e
theorem BM {P:Program}{W:World}{l:List (String × DataW Unit)}{a:String}{k:IntKind}{r:List Int}{g:Nat}{t e:TypeId}{n:Nat}
  (v:P.globalNamed a=some g) (o:(P.globals[g]?).map (·.type)=some t) (y:P.underlying t=some (.array n e)) (u:P.underlying e=some (.int k)) (f:P.cellsOf e=1) (i:P.cellsOf t=n)
  (h:laidMet P l W) (x:(a,Lib.tabData k r) ∈ l):Lib.TabIs P W a k r:=by
 obtain⟨ps,hv,_⟩:=h;obtain⟨g',C,cs,q,p,j,m,b,hd⟩:=xO hv _ _ x;obtain rfl:=ak6 (v.symm.trans j);obtain rfl:=ak6 (o.symm.trans m);unfold Lib.TabIs;rw [b,← Lib.cells_of_tab y u f i hd]
theorem wu {H:Type}{enc:TypeId × Value→H}{P:Program}(j:laidOutB P=true){W g:World}(i:Below W.heap.size W g) :
  ∀ {a:List TypeId} {vs:List Value} {e:List (DataW H)} {ps:List MemPlace},(a.all fun t=>P.readableRec t && decide (t < P.types.size))=true→DataW.TrodAll enc P W 0 (fun _=>true) true a vs e ps→(∀ x ∈ ps,x.block < W.heap.size) →
   DataW.TrodAll enc P g 0 (fun b=>decide (b < W.heap.size)) true a vs e ps
 | [],[],[],_,_,h,_=>h
 | t :: a,v :: vs,d :: e,ps,ha,h,hlt=>by
  obtain⟨p,q,h1,h2,rfl⟩:=h;simp only [List.all_cons,ak9,decide_eq_true_eq] at ha
  exact⟨p,q,Below.trod j ha.1.1 ha.1.2 h1 i (fun x f=>hlt x (List.mem_append_left _ f)),wu j i ha.2 h2 (fun x f=>hlt x (List.mem_append_right _ f)),rfl⟩
 | [],_ :: _,_,_,_,h,_=>h.elim
 | [],[],_ :: _,_,_,h,_=>h.elim
 | _ :: _,[],_,_,_,h,_=>h.elim
 | _ :: _,_ :: _,[],_,_,h,_=>h.elim
theorem Vl {H:Type}{enc:TypeId × Value→H}{P:Program}{f:Func}{s:ChangeSpec}{apart fresh handsOn:Bool}{W j:World}{args:Array Value}{b e:List (DataW H)}{before:List MemPlace}{t:TypeId}
  (m:laidOutB P=true) (n:(f.params.toList.all fun t=>P.readableRec t && decide (t < P.types.size))=true) (hv:s.vars=[]) (i:f.resultTypes=#[t]) (o:P.underlying t=some .bool)
  (a:s.fn H (b ++ e)={ results:=[.lit (.bool true)],args:=b })
  (g:DataW.Whole enc P f.params.toList s.vars apart W args.toList b e before) (k:Below W.heap.size W j) :
  s.post enc P f apart fresh handsOn false W args (.bool true) j:=by
 obtain⟨p,q,l,u,rfl,_,_⟩:=id g
 refine⟨b,e,_,[],p,[],g,?_,?_,?_,Below.frame k _,fun h=>by cases h⟩
 ·rw [a,i];exact trodAll_mk1 (shut_bool o true)
 ·rw [a];exact wu m k n l (fun x r=>g.lt x (List.mem_append_left _ r))
 ·rw [a,hv];exact rfl
theorem ZU:laidOutB Tryz.prog=true:=by kernel_rfl
theorem YG:Tryz.prog.underlying 4=some .bool:=by kernel_rfl
theorem Rf:(Rows.laid_strings_asciiSpace:DataW Unit)=Lib.tabData IntKind.u8 Lib.asciiSpaceTab:=by kernel_rfl
theorem K_ {l : List (String × DataW Unit)} {w : World} (h : laidMet Tryz.prog l w) (a : ("strings.asciiSpace", Rows.laid_strings_asciiSpace) ∈ l) : Env w := by
 rw [Rf] at a
 refine⟨w.heap.size,ak0 _,Lib.tabBelow_of_tabIs (BM (g:=0) (t:=158) (e:=5) (n:=256) (by kernel_rfl) (by kernel_rfl) (by kernel_rfl) (by kernel_rfl) (by kernel_rfl) (by kernel_rfl) h a)⟩
end
section
open Go.ChangeShapes Go.WideShapes Go.ChangeAt Go.RowKit Go.MapKept Go.ChangeMaps Mist
set_option maxRecDepth 100000
structure KQ (w:World) (A B:Option Addr) (xs:List NV) (its:List Int):Prop where
 nodes:0 < xs.length→∃ b o,A=some ⟨b,o,none⟩∧b < w.heap.size∧∀ (i k:Nat) x u,xs[i]? = some x→(iL x)[k]? = some u→w.cell? ⟨b,o+(i * 5+k),none⟩=some u
 kids:∀ x ∈ xs,∃ K c,x.2=.slice K x.1.kids.length c∧IntsIn w K x.1.kids
 items:IntsIn w B its
theorem KQ.below {w g:World}{A B:Option Addr}{xs:List NV}{its:List Int}(h:KQ w A B xs its)(a:Below w.heap.size w g):KQ g A B xs its :=
 ⟨fun h0=>by
  obtain⟨b,o,e,f,j⟩:=h.nodes h0;exact⟨b,o,e,alb f a.size,fun i k x u h1 h2=>(a.cell (by exact f)).trans (j i k x u h1 h2)⟩,
  fun x l=>by
  obtain⟨K,c,e,hi⟩:=h.kids x l;exact⟨K,c,e,hi.below a⟩,h.items.below a⟩
theorem KQ.tAt {w:World}{A B:Option Addr}{xs:List NV}{its:List Int}(h:KQ w A B xs its)(j:∀ x ∈ xs,x.1.kids.length≤1000000):rQ w A B xs its:=by
 refine⟨fun h0=>?_,h.items⟩
 obtain⟨b,o,e,k,f⟩:=h.nodes h0
 refine⟨b,o,e,⟨k,fun i x a=>f i 3 x _ a rfl,fun x a=>?_⟩,fun i x a=>f i 0 x _ a rfl,fun i x a=>f i 1 x _ a rfl,fun i x a=>f i 2 x _ a rfl,fun i x a=>f i 4 x _ a rfl⟩
 obtain⟨K,c,g,hi⟩:=h.kids x a;exact⟨K,c,g,j x a,hi.ex⟩
end
section
open Go.RowKit Mist
attribute [local go_sem] ah aM aV au ak
theorem RowsIn.tAt {g:Nat}{w:World}{A B:Option Addr}{c d:Nat}{xs:List NV}{its:List Int}(h:RowsIn g w (.slice A xs.length c) (.slice B its.length d) xs its)(b:∀ x ∈ xs,x.1.kids.length≤1000000):rQ w A B xs its:=by
 refine⟨fun h0=>?_,yR h.row rfl⟩
 obtain⟨a,e,f⟩:=AJ h.own h0 (fun x i=>⟨_,h.kids x i⟩) b;exact⟨a,0,e,f⟩
theorem D6 (A B:Option Addr)(c d:Nat)(ks ls:List Int)(w:World)(i:IntsIn w A ks)(k:IntsIn w B ls)(n:ks.length≤1000000)(o:ls.length≤1000000) :
  Calls Tryz.prog 33 #[.slice A ks.length c,.slice B ls.length d] w fun e b=>e=.returned (.bool (decide (ks=ls)))∧Below w.heap.size w b:=by
 by_cases h:ks.length=ls.length
 ·by_cases h0:ks.length=0
  ·have f:ks=[]:=List.length_eq_zero_iff.1 h0;have g:ls=[]:=List.length_eq_zero_iff.1 (h ▸ h0);subst f;subst g;refine (Tryz.slices_Equal_int_empty A B c 0 d w (by omega)).mono ?_;rintro e b ⟨rfl,rfl⟩;exact⟨by simp,Below.refl _ _⟩
  ·obtain⟨b1,l,rfl,_,h1⟩:=i.ex (by omega);obtain⟨b2,m,rfl,_,h2⟩:=k.ex (by omega);refine (Tryz.slices_Equal_int b1 l ks.length c b2 m ls.length d ks ls w (ak0 _) (ak0 _) (by omega) (by omega) (fun j a=>?_) (fun j a=>?_)).mono ?_
   ·rw [h1 j ks[j] (akU a)];simp [akY,a]
   ·rw [h2 j ls[j] (akU a)];simp [akY,a]
   ·rintro e b ⟨rfl,q,rfl⟩
    refine⟨?_,gJ (Below.refl _ _) _⟩
    rw [List.take_length,List.take_length]
    congr 2
    rw [akZ];simp
 ·refine (Tryz.slices_Equal_int_lens A B ks.length c ls.length d w h).mono ?_;rintro e b ⟨rfl,rfl⟩
  refine⟨?_,Below.refl _ _⟩
  rw [ala (fun e=>h (by rw [e]))]
theorem Qe (x y:Nd)(A B:Option Addr)(c d:Nat)(w:World)(k:IntsIn w A x.kids)(l:IntsIn w B y.kids)(C:x.kids.length≤1000000)(D:y.kids.length≤1000000) :
  Calls Tryz.prog 32 #[.agg #[.int .u8 x.kind,.string (aH x.text),.int .i64 x.n,.slice A x.kids.length c,.int .i64 x.at_],.agg #[.int .u8 y.kind,.string (aH y.text),.int .i64 y.n,.slice B y.kids.length d,.int .i64 y.at_]] w fun e F=>e=.returned (.bool (decide (eZ x=eZ y)))∧Below w.heap.size w F:=by
 have b:=O (aG (aG (Below.refl w.heap.size w) (ak0 _) (o:=.cells #[.int .u8 x.kind,.string (aH x.text),.int .i64 x.n,.slice A x.kids.length c,.int .i64 x.at_] 50)) (by simp) (o:=.cells #[.int .u8 y.kind,.string (aH y.text),.int .i64 y.n,.slice B y.kids.length d,.int .i64 y.at_] 50));have g:=O fun W (m:Below w.heap.size w W)=>D6 A B c d x.kids y.kids W (k.below m) (l.below m) C D
 have a:∀ {p:Prop},(eZ x=eZ y→p)→¬ p→decide (eZ x=eZ y)=false:=fun h E=>ala (fun e=>E (h e))
 clear k l;by_cases h1:x.kind=y.kind
 case neg =>
  have t:((x.kind:Int) == (y.kind:Int))=false:=by rw [akW];omega
  have f:=O (a (p:=x.kind=y.kind) (fun e=>by have h9:=congrArg Nd.kind e;exact h9) h1);clear h1 a;go_in
  go_wp2_with fail;go_ret;exact⟨by rw [f.o];rfl,b.o⟩
 have t:((x.kind:Int) == (y.kind:Int))=true:=by simp [h1]
 by_cases h2:x.text=y.text
 case neg =>
  have u:(x.text == y.text)=false:=by simpa using h2
  have f:=O (a (p:=x.text=y.text) (fun e=>by have h9:=congrArg Nd.text e;exact h9) h2);have j:=O h1;clear h1 a;go_in
  go_wp2_with fail;go_ret;exact⟨by rw [f.o];rfl,b.o⟩
 have u:(x.text == y.text)=true:=by simpa using h2
 by_cases h3:x.n=y.n
 case neg =>
  have v:(x.n == y.n)=false:=by simpa using h3
  have f:=O (a (p:=x.n=y.n) (fun e=>by have h9:=congrArg Nd.n e;exact h9) h3);have j:=O h1;have q:=O h2;clear h1 h2 h3 a;go_in
  go_wp2_with fail;go_ret;exact⟨by rw [f.o];rfl,b.o⟩
 have v:(x.n == y.n)=true:=by simpa using h3
 have r:=O (show decide (eZ x=eZ y)=decide (x.kids=y.kids) by
  congr 1
  unfold eZ;rw [h1,h2,h3];simp)
 have j:=O h1;have q:=O h2;have G:=O h3;clear h1 h2 h3 a;go_in
 go_wp2_with fail;refine (g.o _ b.o).mono ?_;rintro e w1⟨rfl,i⟩;go_wp2_with fail;go_ret;exact⟨by rw [r.o];first | rfl | simp,b.o.trans (i.mono b.o.size)⟩
theorem Pn (A B Z B':Option Addr)(c c':Nat)(xs m:List NV)(its sj:List Int)(w:World)(hT:rQ w A B xs its)(hU:rQ w Z B' m sj)(t:xs.length≤100000)(hy:m.length≤100000) :
  Calls Tryz.prog 31 #[.slice A xs.length c,.slice Z m.length c',.func (.func 32) #[] #[]] w fun e w'=>e=.returned (.bool (decide ((aF xs).map eZ=(aF m).map eZ)))∧Below w.heap.size w w':=by
 obtain⟨n,E⟩:∃ n,n=xs.length:=⟨_,rfl⟩;obtain⟨n',U⟩:∃ n,n=m.length:=⟨_,rfl⟩;rw [← E] at t ⊢
 rw [← U] at hy ⊢
 have HT:=O hT;clear hT;have HU:=O hU;clear hU;have P:=O E;clear E;have u:=O U;clear U;go_in
 by_cases V:n=n'
 case neg =>
  have q1:((n:Int) != (n':Int))=true:=by simp;omega
  have Q:=O (show decide ((aF xs).map eZ=(aF m).map eZ)=false from ala fun h=>V (by have:=congrArg List.length h;simp only [List.length_map,dL] at this;rw [P.o,u.o];exact this));clear V;go_wp2_with fail;go_ret;exact⟨by rw [Q.o];rfl,Below.refl _ _⟩
 subst V;have q1:((n:Int) != (n:Int))=false:=by simp
 go_wp2_with fail;go_loopw [17] (fun i wr=>∃ k:Nat,k≤n∧i=.int .i64 k∧Hid (((aF xs).take k).map eZ=((aF m).take k).map eZ)∧Hid (Below w.heap.size w wr)) (fun i _=>n - (intOf i).toNat)
 case atStart=>exact⟨0,ak2 _,rfl,O rfl,O (Below.refl _ _)⟩
 case round =>
  obtain⟨C,rfl⟩:∃ C:World,C=wr:=⟨_,rfl⟩;obtain⟨k,hk,rfl,HK,a⟩:=hrel;by_cases v:k < n
  ·have i3:decide (k < n)=true:=ak' v;obtain⟨b,o,rfl,g⟩:=HT.o.nodes (by rw [← P.o];omega);obtain⟨F,N,rfl,j⟩:=HU.o.nodes (by rw [← u.o];omega);obtain⟨x,t⟩:∃ x,xs[k]? = some x:=lF (by rw [← P.o];exact v);obtain⟨y,hy⟩:∃ y,m[k]? = some y:=lF (by rw [← u.o];exact v);have c0:=(a.o.cell (p:=⟨b,o+k * 5,none⟩) g.lt).trans (g.c0 k x t);have c1:=(a.o.cell (p:=⟨b,o+k * 5+1,none⟩) g.lt).trans (g.c1 k x t);have c2:=(a.o.cell (p:=⟨b,o+k * 5+2,none⟩) g.lt).trans (g.c2 k x t);have c3:=(a.o.cell (p:=⟨b,o+k * 5+3,none⟩) g.lt).trans (g.c3 k x t);have c4:=(a.o.cell (p:=⟨b,o+k * 5+4,none⟩) g.lt).trans (g.c4 k x t);have d0:=(a.o.cell (p:=⟨F,N+k * 5,none⟩) j.lt).trans (j.c0 k y hy);have d1:=(a.o.cell (p:=⟨F,N+k * 5+1,none⟩) j.lt).trans (j.c1 k y hy);have d2:=(a.o.cell (p:=⟨F,N+k * 5+2,none⟩) j.lt).trans (j.c2 k y hy);have d3:=(a.o.cell (p:=⟨F,N+k * 5+3,none⟩) j.lt).trans (j.c3 k y hy);have d4:=(a.o.cell (p:=⟨F,N+k * 5+4,none⟩) j.lt).trans (j.c4 k y hy);obtain⟨Ka,ca,J,X,K⟩:=g.kid t;obtain⟨Kb,cb,L,Y,M⟩:=j.kid hy;rw [J] at c3
   rw [L] at d3
   have H:=O (vB t);have I:=O (vB hy);have hb1:b < C.heap.size:=alb g.lt a.o.size;have hb2:F < C.heap.size:=alb j.lt a.o.size;have NY:=O fun W (hb:Below C.heap.size C W)=>Qe x.1 y.1 Ka Kb ca cb W ((K.below a.o).below hb) ((M.below a.o).below hb) X Y
   clear g j t hy J L K M;have z0:(0:Int)≤(k:Int):=by omega
   have z1:(k:Int) < (n:Int):=by omega
   have f:=O (aG (aG (Below.refl C.heap.size C) (ak0 _) (o:=.cells #[.int .u8 x.1.kind,.string (aH x.1.text),.int .i64 x.1.n,.slice Ka x.1.kids.length ca,.int .i64 x.1.at_] 50)) (by simp) (o:=.cells #[.int .u8 y.1.kind,.string (aH y.1.text),.int .i64 y.1.n,.slice Kb y.1.kids.length cb,.int .i64 y.1.at_] 50));by_cases G:eZ x.1=eZ y.1
   ·have T:=O (show decide (eZ x.1=eZ y.1)=true from ak' G)
    have R:=O (show ((aF xs).take (k+1)).map eZ=((aF m).take (k+1)).map eZ by
     rw [List.take_add_one,List.take_add_one,H.o,I.o,List.map_append,List.map_append,HK.o];simp [G])
    clear G;go_wp2_with fail;refine (NY.o _ f.o).mono ?_;rintro e w2⟨rfl,q⟩;rw [T.o];have D:=O (a.o.trans ((f.o.trans (q.mono f.o.size)).mono a.o.size));clear q;go_wp2_with fail;exact⟨⟨k+1,by omega,by go_num,R,D⟩,by simp [intOf];omega⟩
   ·have T:=O (show decide (eZ x.1=eZ y.1)=false from ala G)
    have Q:=O (show decide ((aF xs).map eZ=(aF m).map eZ)=false from ala fun h=>by
     refine ze (l:=(aF xs).map eZ) (r:=(aF m).map eZ) (k:=k) ?_ ?_ G h
     ·rw [List.getElem?_map,H.o];rfl
     ·rw [List.getElem?_map,I.o];rfl)
    clear G;go_wp2_with fail;refine (NY.o _ f.o).mono ?_;rintro e w2⟨rfl,q⟩;rw [T.o];have D:=O (a.o.trans ((f.o.trans (q.mono f.o.size)).mono a.o.size));clear q;go_wp2_with fail;go_ret;exact⟨by rw [Q.o];rfl,D.o⟩
  ·have i3:decide (k < n)=false:=ala v
   have S:=O (show decide ((aF xs).map eZ=(aF m).map eZ)=true from ak' (by
    have h9:=HK.o
    rwa [ak4 (by rw [dL,← P.o];omega),ak4 (by rw [dL,← u.o];omega)] at h9))
   go_wp2_with fail;go_ret;exact⟨by rw [S.o];rfl,a.o⟩
end
section
open Go.RowKit Mist
attribute [local go_sem] ah aM aV au ak
def two (T U:Tr):Int:=if fJ T ≠ 0 then fJ T else fJ U
def eqE (T U:Tr):Bool × Int:=if two T U ≠ 0 then (false,two T U) else (decide (T.nodes.map eZ=U.nodes.map eZ) && decide (T.items=U.items),0)
theorem Pj (A B F B':Option Addr)(c d M N g:Nat)(xs r:List NV)(its D:List Int)(w:World)(X:rQ w A B xs its)(Y:rQ w F B' r D)(V:Dt (aF xs))(hS:Dt (aF r))(Q:Env w)(Z:bf w g 32 #[.slice A xs.length c,.slice B its.length d,.slice F r.length M,.slice B' D.length N]) :
  Calls Tryz.prog 30 #[.slice (some ⟨g,0,none⟩) 2 2] w fun e w'=>e=.returned (.int .i64 (two ⟨aF xs,its⟩ ⟨aF r,D⟩))∧Below w.heap.size w w':=by
 have u:=O fun W (J:Below w.heap.size w W)=>rP A B c d xs its W (X.below J) V (Q.below J)
 have v:=O fun W (J:Below w.heap.size w W)=>rP F B' M N r D W (Y.below J) hS (Q.below J)
 obtain⟨T,sS⟩:∃ T:Tr,T=⟨aF xs,its⟩:=⟨_,rfl⟩;obtain⟨U,I⟩:∃ U:Tr,U=⟨aF r,D⟩:=⟨_,rfl⟩;rw [← sS] at u ⊢
 rw [← I] at v ⊢
 clear sS I X Y V hS Q;have S:=O Z;clear Z;obtain⟨p,j⟩:∃ p,p=fJ T:=⟨_,rfl⟩;obtain⟨q,m⟩:∃ q,q=fJ U:=⟨_,rfl⟩;have x:=O (show two T U=if p ≠ 0 then p else q by unfold two;rw [j,m]);rw [← j] at u
 rw [← m] at v
 clear j m;go_in
 go_wp2_with fail;go_loopw [8] (fun i wr=>∃ k:Nat,k≤2∧i=.int .i64 k∧(0 < k→p=0)∧(1 < k→q=0)∧Hid (bf wr g 32 #[.slice A xs.length c,.slice B its.length d,.slice F r.length M,.slice B' D.length N])∧Hid (Below w.heap.size w wr)) (fun i _=>2 - (intOf i).toNat)
 case atStart=>exact⟨0,by omega,rfl,fun h=>absurd h (by omega),fun h=>absurd h (by omega),S,O (Below.refl _ _)⟩
 case round =>
  clear S;obtain⟨E,rfl⟩:∃ E:World,E=wr:=⟨_,rfl⟩;obtain⟨k,hk,rfl,l,C,n,G⟩:=hrel;have t0:=n.o.cell 0;have t1:=n.o.cell 1;have t2:=n.o.cell 2;have t3:=n.o.cell 3;have R:k=0∨k=1∨k=2:=by omega
  rcases R with rfl | rfl | rfl
  ·have b:=O (aG (Below.refl E.heap.size E) (ak0 _) (o:=.cells #[.slice A xs.length c,.slice B its.length d] 32));have a:=O (G.o.trans (b.o.mono G.o.size));go_wp2_with fail;refine (u.o _ a.o).mono ?_;rintro e w2⟨rfl,f⟩;have K:=O (a.o.trans (f.mono a.o.size));have y:=O (b.o.trans (f.mono b.o.size));clear f;by_cases j:p=0
   ·have P:(p != 0)=false:=by simp [j]
    have t:=O (n.o.below y.o n.o.lt);have L:=O j;clear j;go_wp2_with fail;exact⟨⟨1,by omega,rfl,fun _=>L.o,fun h=>absurd h (by omega),t,K⟩,by simp [intOf]⟩
   ·have P:(p != 0)=true:=by simpa using j
    have H:=O (show two T U=p by rw [x.o,if_pos j]);clear j;go_wp2_with fail;go_ret;exact⟨by rw [H.o];rfl,K.o⟩
  ·have j:=l (by omega);have L:=O j;have b:=O (aG (Below.refl E.heap.size E) (ak0 _) (o:=.cells #[.slice F r.length M,.slice B' D.length N] 32));have a:=O (G.o.trans (b.o.mono G.o.size));clear l C j;go_wp2_with fail;refine (v.o _ a.o).mono ?_;rintro e w2⟨rfl,f⟩;have K:=O (a.o.trans (f.mono a.o.size));have y:=O (b.o.trans (f.mono b.o.size));clear f;by_cases m:q=0
   ·have P:(q != 0)=false:=by simp [m]
    have t:=O (n.o.below y.o n.o.lt);have HQ:=O m;clear m;go_wp2_with fail;exact⟨⟨2,by omega,rfl,fun _=>L.o,fun _=>HQ.o,t,K⟩,by simp [intOf]⟩
   ·have P:(q != 0)=true:=by simpa using m
    have H:=O (show two T U=q by rw [x.o,if_neg (by rw [L.o];simp)]);clear m;go_wp2_with fail;go_ret;exact⟨by rw [H.o];rfl,K.o⟩
  ·have H:=O (show two T U=0 by rw [x.o,if_neg (by rw [l (by omega)];simp),C (by omega)]);clear l C;go_wp2_with fail;go_ret;exact⟨by rw [H.o];rfl,G.o⟩
theorem Po (A B h B':Option Addr)(c d i j:Nat)(xs a:List NV)(its b:List Int)(w:World)(K:rQ w A B xs its)(L:rQ w h B' a b)(V:Dt (aF xs))(hS:Dt (aF a))(S:Env w)(X:xs.length≤100000)(hy:a.length≤100000)(hi:its.length≤100000)(hj:b.length≤100000) :
  Calls Tryz.prog 11 #[.agg #[.slice A xs.length c,.slice B its.length d],.agg #[.slice h a.length i,.slice B' b.length j]] w fun e w'=>e=.returned (.tuple #[.bool (eqE ⟨aF xs,its⟩ ⟨aF a,b⟩).1,.int .i64 (eqE ⟨aF xs,its⟩ ⟨aF a,b⟩).2])∧Below w.heap.size w w':=by
 have f:=O fun W (q:Below w.heap.size w W) g hg=>Pj A B h B' c d i j g xs a its b W (K.below q) (L.below q) V hS (S.below q) hg
 have N:=O fun W (q:Below w.heap.size w W)=>Pn A B h B' c i xs a its b W (K.below q) (L.below q) X hy
 have P:=O fun W (q:Below w.heap.size w W)=>D6 B B' d j its b W (K.below q).items (L.below q).items (by omega) (by omega)
 obtain⟨T,R⟩:∃ T:Tr,T=⟨aF xs,its⟩:=⟨_,rfl⟩;obtain⟨U,y⟩:∃ U:Tr,U=⟨aF a,b⟩:=⟨_,rfl⟩;have l:=O (show eqE T U=if two T U ≠ 0 then (false,two T U) else (decide ((aF xs).map eZ=(aF a).map eZ) && decide (its=b),0) by rw [R,y];rfl);rw [← R,← y] at f ⊢
 clear R y K L V hS S X hy hi hj;have v:=O (((bf.new w 32 #[.slice A xs.length c,.slice B its.length d]).alloc (.cells #[.slice h a.length i,.slice B' b.length j] 32)).alloc (.cells #[.slice A xs.length c,.slice B its.length d,.slice h a.length i,.slice B' b.length j] 32));have x:=O ((uE (W:=w.alloc (.cells #[.slice A xs.length c,.slice B its.length d] 32)) (T:=32) (cs:=#[.slice h a.length i,.slice B' b.length j]) (k:=w.heap.size+1) (by simp)).alloc (.cells #[.slice A xs.length c,.slice B its.length d,.slice h a.length i,.slice B' b.length j] 32));have G:=O (uE (W:=(w.alloc (.cells #[.slice A xs.length c,.slice B its.length d] 32)).alloc (.cells #[.slice h a.length i,.slice B' b.length j] 32)) (T:=32) (cs:=#[.slice A xs.length c,.slice B its.length d,.slice h a.length i,.slice B' b.length j]) (k:=w.heap.size+1+1) (by simp));have M:=O (aG (aG (aG (Below.refl w.heap.size w) (ak0 _) (o:=.cells #[.slice A xs.length c,.slice B its.length d] 32)) (by simp) (o:=.cells #[.slice h a.length i,.slice B' b.length j] 32)) (by simp;omega) (o:=.cells #[.slice A xs.length c,.slice B its.length d,.slice h a.length i,.slice B' b.length j] 32));go_in
 go_wp2_with fail;refine (f.o _ M.o _ G.o).mono ?_;rintro e w1⟨rfl,t⟩;have C:=O (v.o.below t v.o.lt);have F:=O (x.o.below t x.o.lt);have H:=O (M.o.trans (t.mono M.o.size));clear t v x G M f;have Y:=C.o.cell 0;have Z:=C.o.cell 1;have u0:=F.o.cell 0;have u1:=F.o.cell 1;obtain⟨E,J⟩:∃ E,E=two T U:=⟨_,rfl⟩;rw [← J] at l ⊢
 clear J;by_cases n:E=0
 case neg =>
  have e1:(E != 0)=true:=by simpa using n
  have I:=O (show eqE T U=(false,E) by rw [l.o,if_pos n]);clear n;go_wp2_with fail;go_ret2
  exact⟨by rw [I.o];rfl,H.o⟩
 subst n;have I:=O (show eqE T U=(decide ((aF xs).map eZ=(aF a).map eZ) && decide (its=b),0) by rw [l.o,if_neg (by simp)]);clear l;go_wp2_with fail;refine (N.o _ H.o).mono ?_;rintro e w2⟨rfl,u⟩;have D:=O (C.o.below u C.o.lt);have f:=O (F.o.below u F.o.lt);have m:=O (H.o.trans (u.mono H.o.size));clear u C F H Y Z u0 u1;have Y:=D.o.cell 0;have Z:=D.o.cell 1;have u0:=f.o.cell 0;have u1:=f.o.cell 1
 generalize decide ((aF xs).map eZ=(aF a).map eZ)=r at I ⊢
 cases r
 ·go_wp2_with fail;go_ret2
  exact⟨by rw [I.o];rfl,m.o⟩
 ·go_wp2_with fail;refine (P.o _ m.o).mono ?_;rintro e w3⟨rfl,Q⟩;go_wp2_with fail;go_ret2
  exact⟨by rw [I.o];first | rfl | simp,m.o.trans (Q.mono m.o.size)⟩
end
set_option linter.all false
section
open Go.RowKit Mist
attribute [local go_sem] ah aM aV au ak
theorem rQ.agJ {w r:World}{A B:Option Addr}{xs:List NV}{its:List Int}{tb:Nat}(h:rQ w A B xs its)(y:w.heap.size≤r.heap.size)(n:∀ (o:Nat) k q,w.cell? ⟨tb,o,none⟩ ≠ some (.int k q))(m:∀ (b o:Nat),b ≠ tb→r.cell? ⟨b,o,none⟩=w.cell? ⟨b,o,none⟩):rQ r A B xs its:=by
 have l:∀ {C:Option Addr} {ks:List Int},IntsIn w C ks→IntsIn r C ks:=fun hi=>⟨fun h0=>by
  obtain⟨b,o,e,E,u⟩:=hi.ex h0
  refine⟨b,o,e,alb E y,fun j k v=>?_⟩
  rw [m b _ (fun t=>n (o+j) _ _ (by rw [← t];exact u j k v))];exact u j k v⟩
 refine⟨fun h0=>?_,l h.items⟩
 obtain⟨b,o,e,g⟩:=h.nodes h0;have a:b ≠ tb:=fun t=>n _ _ _ (by rw [← t];exact g.c0 0 _ (akU h0))
 refine⟨b,o,e,⟨⟨alb g.lt y,fun i x f=>(m b _ a).trans (g.c3 i x f),fun x f=>?_⟩,fun i x f=>(m b _ a).trans (g.c0 i x f),fun i x f=>(m b _ a).trans (g.c1 i x f),fun i x f=>(m b _ a).trans (g.c2 i x f),fun i x f=>(m b _ a).trans (g.c4 i x f)⟩⟩
 obtain⟨D,c1,h1,h2,h3⟩:=g.kids.kids x f;exact⟨D,c1,h1,h2,(l ⟨h3⟩).ex⟩
def nQ (T U:Tr)(E F:Int):Bool × Int:=if E ≠ 0 then (false,E) else if F ≠ 0 then (false,F) else eqE T U
def InT (w:World)(u v:Value)(T:Tr):Prop:=∃ (A B:Option Addr) (c d:Nat) (xs:List NV),u=.slice A xs.length c∧v=.slice B T.items.length d∧aF xs=T.nodes∧rQ w A B xs T.items
structure uy (T U:Tr) (E F:Int) (b k:Nat) (w:World):Prop where
 blk:∃ A0 A1 B0 B1:Option Addr,∃ n0 n1 m0 m1 c0 c1 d0 d1:Nat,bf w b 38 #[.slice A0 n0 c0,.slice B0 m0 d0,.slice A1 n1 c1,.slice B1 m1 d1] ∧
  (1≤k→E=0∧InT w (.slice A0 n0 c0) (.slice B0 m0 d0) T)∧(2≤k→F=0∧InT w (.slice A1 n1 c1) (.slice B1 m1 d1) U)
theorem InT.below {w a:World}{u v:Value}{T:Tr}(h:InT w u v T)(b:Below w.heap.size w a):InT a u v T:=by
 obtain⟨A,B,c,d,xs,h1,h2,h3,h4⟩:=h;exact⟨A,B,c,d,xs,h1,h2,h3,h4.below b⟩
theorem uy.below {T U:Tr}{E F:Int}{b k:Nat}{w f:World}(h:uy T U E F b k w)(e:Below w.heap.size w f):uy T U E F b k f:=by
 obtain⟨g,i,j,l,t,u,q,r,m,c1,n,o,h1,h2,h3⟩:=h.blk;exact⟨g,i,j,l,t,u,q,r,m,c1,n,o,h1.below e h1.lt,fun a=>⟨(h2 a).1,(h2 a).2.below e⟩,fun a=>⟨(h3 a).1,(h3 a).2.below e⟩⟩
theorem InT.set {w:World}{x y:Value}{T:Tr}{b i:Nat}{f g j l:Option Addr}{E F C D m c1 n r:Nat}(h:InT w x y T)(t:bf w b 38 #[.slice f E m,.slice j C n,.slice g F c1,.slice l D r])(u v:Value):InT ((w.setCell ⟨b,i,none⟩ u).setCell ⟨b,i+1,none⟩ v) x y T:=by
 obtain⟨A,B,c,d,xs,h1,h2,h3,h4⟩:=h
 refine⟨A,B,c,d,xs,h1,h2,h3,h4.agJ (tb:=b) (by simp) (fun o k q e=>?_) fun b o a=>?_⟩
 ·rw [t.cell o] at e
  match o with
  | 0=>simp at e
  | 1=>simp at e
  | 2=>simp at e
  | 3=>simp at e
  | o+4=>simp at e
 ·rw [World.cell?_setCell_other _ _ _ _ (by intro e;injection e with e;exact a e.symm),World.cell?_setCell_other _ _ _ _ (by intro e;injection e with e;exact a e.symm)]
theorem uy.one {T U:Tr}{E F:Int}{b:Nat}{w:World}(h:uy T U E F b 0 w){A B:Option Addr}{n m c d:Nat}(g:E=0)(j:InT w (.slice A n c) (.slice B m d) T):uy T U E F b 1 ((w.setCell ⟨b,0,none⟩ (.slice A n c)).setCell ⟨b,1,none⟩ (.slice B m d)):=by
 obtain⟨q,a,r,e,x,o,v,l,t,c1,u,f,h1,h2,h3⟩:=h.blk
 refine⟨A,a,B,e,n,o,m,l,c,c1,d,f,?_,fun _=>⟨g,j.set (i:=0) h1 _ _⟩,fun k=>absurd k (by omega)⟩
 have:=(h1.g_ 0 (.slice A n c)).g_ 1 (.slice B m d)
 simpa using this
theorem uy.two {T U:Tr}{E F:Int}{b:Nat}{w:World}(h:uy T U E F b 1 w){A B:Option Addr}{n m c d:Nat}(hF:F=0)(j:InT w (.slice A n c) (.slice B m d) U):uy T U E F b 2 ((w.setCell ⟨b,2,none⟩ (.slice A n c)).setCell ⟨b,3,none⟩ (.slice B m d)):=by
 obtain⟨a,o,e,q,l,v,k,u,f,c1,g,r,h1,h2,h3⟩:=h.blk
 refine⟨a,A,e,B,l,n,k,m,f,c,g,d,?_,fun _=>⟨(h2 (by omega)).1,(h2 (by omega)).2.set (i:=2) h1 _ _⟩,fun t=>⟨hF,j.set (i:=2) h1 _ _⟩⟩
 have:=(h1.g_ 2 (.slice A n c)).g_ 3 (.slice B m d)
 simpa using this
theorem afx (a b:Bs)(w:World):Sem.run Tryz.prog (Instr.index 39 (.agg #[.string (aH a),.string (aH b)]) (.int .i64 0)) w=.ok (.string (aH a)) w:=by kernel_rfl
theorem afy (a b:Bs)(w:World):Sem.run Tryz.prog (Instr.index 39 (.agg #[.string (aH a),.string (aH b)]) (.int .i64 1)) w=.ok (.string (aH b)) w:=by kernel_rfl
theorem Yt {W:World}{s t:Bs}{T U:Tr}{X Y E F:Int}(hP:∀ w,Env w→Calls Tryz.prog 8 #[.string (aH s)] w (nU T X E w))(hQ:∀ w,Env w→Calls Tryz.prog 8 #[.string (aH t)] w (nU U Y F w))(hT:Parsed T X E)(hU:Parsed U Y F)(hTn:T.nodes.length≤1000∧T.items.length≤1000)(hUn:U.nodes.length≤1000∧U.items.length≤1000)(hE:Env W) :
  Calls Tryz.prog 5 #[.string (aH s),.string (aH t)] W fun e W'=>e=.returned (.tuple #[.bool (nQ T U E F).1,.int .i64 (nQ T U E F).2])∧Below W.heap.size W W':=by
 have HP:=O hP;have HQ:=O hQ;have HE:=O hE;have HT:=O hT;have HU:=O hU;have HN:=O (And.intro hTn hUn);have Q:=O (show uy T U E F W.heap.size 0 (W.alloc (.cells #[.slice none 0 0,.slice none 0 0,.slice none 0 0,.slice none 0 0] 38)) from ⟨none,none,none,none,0,0,0,0,0,0,0,0,bf.new W _ _,fun h=>absurd h (by omega),fun h=>absurd h (by omega)⟩);have P:=O ((Below.refl W.heap.size W).alloc (ak0 _) (.cells #[.slice none 0 0,.slice none 0 0,.slice none 0 0,.slice none 0 0] 38));clear hP hQ hE hT hU hTn hUn;go_in
 go_wp2_with fail;go_loopw [7,8,9,10,11,15] (fun _ _ _ _ _ H wr=>∃ k:Nat,k≤2∧H=.int .i64 k∧Hid (uy T U E F W.heap.size k wr)∧Hid (Below W.heap.size W wr)) (fun _ _ _ _ _ H _=>2 - (intOf H).toNat)
 case atStart=>exact⟨0,by omega,rfl,Q,P⟩
 case round =>
  obtain⟨k,hk,rfl,D,r⟩:=hrel;clear Q P;rcases (show k=0∨k=1∨k=2 by omega) with rfl | rfl | rfl
  ·have v:=afx s t wr;have g:=HP.o wr (HE.o.below r.o);have V:=O g;clear g;go_wp2_with fail;refine V.o.mono ?_;rintro e w1⟨q,A,B,c,d,xs,rfl,x,S⟩;have a:=O (r.o.trans (q.mono r.o.size));have N:=O (D.o.below q);have j:=O (show InT w1 (.slice A xs.length c) (.slice B T.items.length d) T from ⟨A,B,c,d,xs,rfl,rfl,x,S⟩);obtain⟨n,hn⟩:∃ n,n=xs.length:=⟨_,rfl⟩;obtain⟨m,hm⟩:∃ m,m=T.items.length:=⟨_,rfl⟩;rw [← hn,← hm] at j ⊢
   clear v q x S hn hm D r V;by_cases h0:E=0
   ·have G:=O ((Below.refl w1.heap.size w1).alloc (ak0 _) (.cells #[.slice A n c,.slice B m d] 32));have wX:=O (N.o.below G.o);have C:=O (j.o.below G.o);have f:=O (a.o.trans (G.o.mono a.o.size));have Tg:=O (wX.o.one h0 C.o);have WJ:=O (eF (b:=W.heap.size) (i:=0+1) (u:=.slice B m d) (eF (b:=W.heap.size) (i:=0) (u:=.slice A n c) f.o (ak0 _)) (ak0 _));have z1:(E != 0)=false:=by simp [h0]
    obtain⟨J,K,L,M,n0,n1,m0,m1,Z,c1,d0,d1,h1,_,_⟩:=wX.o.blk;have a0:=h1.cell 0;have a1:=h1.cell 1;have a2:=h1.cell 2;have a3:=h1.cell 3;have hlt:=h1.lt;have r0:=h1.frozen 0;have r1:=h1.frozen 1;clear h1;clear N j;go_wp2_with fail;exact⟨⟨1,by omega,rfl,Tg,WJ⟩,by simp [intOf]⟩
   ·have z:(E != 0)=true:=by simpa using h0
    have I:=O (show nQ T U E F=(false,E) from by unfold nQ;rw [if_pos h0]);have f:=O (a.o.alloc a.o.size (.cells #[.slice A n c,.slice B m d] 32));clear h0;go_wp2_with fail;go_ret2
    exact⟨(by rw [I.o];first | done | rfl),f.o⟩
  ·have l:=O (show E=0 from by
    obtain⟨J,K,L,M,n0,n1,m0,m1,Z,c1,d0,d1,h1,h2,h3⟩:=D.o.blk;exact (h2 (by omega)).1)
   have v:=afy s t wr;have g:=HQ.o wr (HE.o.below r.o);have V:=O g;clear g;go_wp2_with fail;refine V.o.mono ?_;rintro e w1⟨q,A,B,c,d,xs,rfl,x,S⟩;have a:=O (r.o.trans (q.mono r.o.size));have N:=O (D.o.below q);have j:=O (show InT w1 (.slice A xs.length c) (.slice B U.items.length d) U from ⟨A,B,c,d,xs,rfl,rfl,x,S⟩);obtain⟨n,hn⟩:∃ n,n=xs.length:=⟨_,rfl⟩;obtain⟨m,hm⟩:∃ m,m=U.items.length:=⟨_,rfl⟩;rw [← hn,← hm] at j ⊢
   clear v q x S hn hm D r V;by_cases h0:F=0
   ·have G:=O ((Below.refl w1.heap.size w1).alloc (ak0 _) (.cells #[.slice A n c,.slice B m d] 32));have wX:=O (N.o.below G.o);have C:=O (j.o.below G.o);have f:=O (a.o.trans (G.o.mono a.o.size));have Tg:=O (wX.o.two h0 C.o);have WJ:=O (eF (b:=W.heap.size) (i:=2+1) (u:=.slice B m d) (eF (b:=W.heap.size) (i:=2) (u:=.slice A n c) f.o (ak0 _)) (ak0 _));have z1:(F != 0)=false:=by simp [h0]
    obtain⟨J,K,L,M,n0,n1,m0,m1,Z,c1,d0,d1,h1,_,_⟩:=wX.o.blk;have a0:=h1.cell 0;have a1:=h1.cell 1;have a2:=h1.cell 2;have a3:=h1.cell 3;have hlt:=h1.lt;have r0:=h1.frozen 2;have r1:=h1.frozen 3;clear h1;clear N j;go_wp2_with fail;exact⟨⟨2,by omega,rfl,Tg,WJ⟩,by simp [intOf]⟩
   ·have z:(F != 0)=true:=by simpa using h0
    have I:=O (show nQ T U E F=(false,F) from by unfold nQ;rw [if_neg (by simp [l.o]),if_pos h0]);have f:=O (a.o.alloc a.o.size (.cells #[.slice A n c,.slice B m d] 32));clear h0;go_wp2_with fail;go_ret2
    exact⟨(by rw [I.o];first | done | rfl),f.o⟩
  ·have l:=O (show E=0∧F=0 from by
    obtain⟨J,K,L,M,n0,n1,m0,m1,Z,c1,d0,d1,h1,h2,h3⟩:=D.o.blk;exact⟨(h2 (by omega)).1,(h3 (by omega)).1⟩)
   obtain⟨J,K,L,M,n0,n1,m0,m1,Z,c1,d0,d1,h1,h2,h3⟩:=D.o.blk;obtain⟨A,B,c,d,xs,e1,e2,e3,e4⟩:=(h2 (by omega)).2;obtain⟨A',B',c',d',ys,e5,e6,e7,e8⟩:=(h3 (by omega)).2;injection e1 with q1 q2 q3
   injection e2 with q4 q5 q6
   injection e5 with q7 q8 q9
   injection e6 with q10 q11 q12
   subst q1 q2 q3 q4 q5 q6 q7 q8 q9 q10 q11 q12;have t1:=J9 e3;have t2:=J9 e7;have hTR:fJ T=0∧Dt T.nodes:=by rcases HT.o with h | h;exact absurd l.o.1 h;exact⟨h.2.2.1,h.2.2.2⟩
   have hUR:fJ U=0∧Dt U.nodes:=by rcases HU.o with h | h;exact absurd l.o.2 h;exact⟨h.2.2.1,h.2.2.2⟩
   have y:=O (Po J L K M Z d0 c1 d1 xs ys T.items U.items wr e4 e8 (by rw [e3];exact hTR.2) (by rw [e7];exact hUR.2) (HE.o.below r.o) (by have:=congrArg List.length e3;rw [dL] at this;have:=HN.o.1.1;omega) (by have:=congrArg List.length e7;rw [dL] at this;have:=HN.o.2.1;omega) (by have:=HN.o.1.2;omega) (by have:=HN.o.2.2;omega));rw [← t1,← t2] at y
   have I:=O (show nQ T U E F=eqE T U from by unfold nQ;rw [if_neg (by simp [l.o.1]),if_neg (by simp [l.o.2])]);obtain⟨R,hR⟩:∃ R,R=eqE T U:=⟨_,rfl⟩;rw [← hR] at I y
   obtain⟨i0,hi0⟩:∃ i,i=T.items.length:=⟨_,rfl⟩;obtain⟨i1,hi1⟩:∃ i,i=U.items.length:=⟨_,rfl⟩;rw [← hi0,← hi1] at y h1
   have a0:=h1.cell 0;have a1:=h1.cell 1;have a2:=h1.cell 2;have a3:=h1.cell 3;clear h1 h2 h3 e3 e4 e7 e8 t1 t2 hTR hUR hR hi0 hi1 l;go_wp2_with fail;refine y.o.mono ?_;rintro e w2⟨rfl,hb2⟩;have f:=O (r.o.trans (hb2.mono r.o.size));clear hb2 a0 a1 a2 a3;go_wp2_with fail;go_ret2
   exact⟨(by rw [I.o];first | done | rfl),f.o⟩
end
set_option linter.all false
section
open Go.RowKit Mist
def zp1:Bs:=[108,101,116,32,115,61,40,97,41,43,40,40,98,42,50,41,41,59,97,115,107,32,108,111,111,107,45,40,97,45,40,98,45,99,41,41,44,45,32,45,97,44,40,105,102,32,99,32,116,104,101,110,32,49,32,101,108,115,101,32,50,41,43,49,44,102,40,45,97,44,91,49,44,50,93,91,48,93,41,59]
def zp2:Bs:=[99,104,111,111,115,101,32,100,32,58,32,45,32,51,32,46,46,32,54,32,59,32,102,117,110,32,102,40,97,58,105,110,116,44,98,58,112,41,58,91,105,110,116,59,50,93,117,112,116,111,32,51,61,91,97,44,98,46,120,93,59,32,108,101,116,32,115,32,61,32,97,32,43,32,98,32,42,32,50,59]
def zp3:Bs:=[108,101,116,32,97,32,61,32,40,49,41,59]
def zp4:Bs:=[108,101,116,32,97,61,49,59]
def zo1:Bs:=[108,101,116,32,115,32,61,32,97,32,43,32,98,32,42,32,50,59,10,97,115,107,32,108,111,111,107,32,45,40,97,32,45,32,40,98,32,45,32,99,41,41,44,32,45,32,45,97,44,32,40,105,102,32,99,32,116,104,101,110,32,49,32,101,108,115,101,32,50,41,32,43,32,49,44,32,102,40,45,97,44,32,91,49,44,32,50,93,91,48,93,41,59,10]
def zo2:Bs:=[102,117,110,32,102,40,97,58,32,105,110,116,44,32,98,58,32,112,41,58,32,91,105,110,116,59,32,50,93,32,117,112,116,111,32,51,32,61,32,91,97,44,32,98,46,120,93,59]
def zo3:Bs:=[99,104,111,111,115,101,32,100,58,32,45,51,46,46,54,59]
def zo4:Bs:=[108,101,116,32,115,32,61,32,97,32,43,10,32,32,98,32,42,32,50,59]
def lp1:List Mist.Tok:=(Mist.read zp1).1
def tp1:Tr:=match prog lp1 (zp1.length:Int) 1000 50 0 [] [] with | some (.ok its _ ns)=>⟨ns,its⟩ | _=>⟨[],[]⟩
theorem acJ:Mist.read zp1=(lp1,0,0):=by decide +kernel
theorem agZ:PF lp1:=SA (by decide +kernel)
theorem acI:prog lp1 (zp1.length:Int) 1000 50 0 [] []=some (.ok tp1.items lp1.length tp1.nodes):=by decide +kernel
theorem acH:vW tp1:=yS (by decide +kernel)
theorem U9:gM tp1=(0,0):=by decide +kernel
theorem aap:fJ tp1=0:=by decide +kernel
theorem aao:Dt tp1.nodes:=J8 (by decide +kernel)
theorem aiZ:Parsed tp1 0 0:=.inr ⟨rfl,rfl,aap,aao⟩
def lp2:List Mist.Tok:=(Mist.read zp2).1
def Gj:Tr:=match prog lp2 (zp2.length:Int) 1000 50 0 [] [] with | some (.ok its _ ns)=>⟨ns,its⟩ | _=>⟨[],[]⟩
theorem acM:Mist.read zp2=(lp2,0,0):=by decide +kernel
theorem ag0:PF lp2:=SA (by decide +kernel)
theorem acL:prog lp2 (zp2.length:Int) 1000 50 0 [] []=some (.ok Gj.items lp2.length Gj.nodes):=by decide +kernel
theorem acK:vW Gj:=yS (by decide +kernel)
theorem U_:gM Gj=(0,0):=by decide +kernel
theorem aar:Dt Gj.nodes:=J8 (by decide +kernel)
def lp3:List Mist.Tok:=(Mist.read zp3).1
def tp3:Tr:=match prog lp3 (zp3.length:Int) 1000 50 0 [] [] with | some (.ok its _ ns)=>⟨ns,its⟩ | _=>⟨[],[]⟩
theorem acP:Mist.read zp3=(lp3,0,0):=by decide +kernel
theorem ag1:PF lp3:=SA (by decide +kernel)
theorem acO:prog lp3 (zp3.length:Int) 1000 50 0 [] []=some (.ok tp3.items lp3.length tp3.nodes):=by decide +kernel
theorem acN:vW tp3:=yS (by decide +kernel)
theorem Va:gM tp3=(0,0):=by decide +kernel
theorem aau:fJ tp3=0:=by decide +kernel
theorem aat:Dt tp3.nodes:=J8 (by decide +kernel)
theorem ai0:Parsed tp3 0 0:=.inr ⟨rfl,rfl,aau,aat⟩
def lp4:List Mist.Tok:=(Mist.read zp4).1
def tp4:Tr:=match prog lp4 (zp4.length:Int) 1000 50 0 [] [] with | some (.ok its _ ns)=>⟨ns,its⟩ | _=>⟨[],[]⟩
theorem acS:Mist.read zp4=(lp4,0,0):=by decide +kernel
theorem ag2:PF lp4:=SA (by decide +kernel)
theorem acR:prog lp4 (zp4.length:Int) 1000 50 0 [] []=some (.ok tp4.items lp4.length tp4.nodes):=by decide +kernel
theorem acQ:vW tp4:=yS (by decide +kernel)
theorem Vb:gM tp4=(0,0):=by decide +kernel
theorem aax:fJ tp4=0:=by decide +kernel
theorem aaw:Dt tp4.nodes:=J8 (by decide +kernel)
theorem ai1:Parsed tp4 0 0:=.inr ⟨rfl,rfl,aax,aaw⟩
theorem agT:yT tp1=(zo1,0):=by decide +kernel
theorem agV:r_ Gj 1=(zo2,0):=by decide +kernel
theorem agW:r_ Gj 0=(zo3,0):=by decide +kernel
theorem agX:yx Gj 2 11=(zo4,0):=by decide +kernel
theorem agY:nQ tp3 tp4 0 0=(true,0):=by decide +kernel
theorem Ct {s:Bs}{l:List Mist.Tok}{n f k:Nat}{T:Tr}(o:Mist.read s=(l,0,0))(hF:PF l)(m:prog l (s.length:Int) n f 0 [] []=some (.ok T.items k T.nodes))(j:s.length≤100000000)(b:vW T)(i:gM T=(0,0))(w:World)(a:Env w) :
  Calls Tryz.prog 8 #[.string (aH s)] w (nU T 0 0 w) :=
 (acn w o hF m a j b i).mono fun e q h=>by
  obtain⟨g,A,B,c,d,xs,h1,h2,h3,_,h4⟩:=h;exact⟨g,A,B,c,d,xs,by rw [h3];exact h1,h2,h4⟩
theorem aaq (w:World)(a:Env w):Calls Tryz.prog 8 #[.string (aH zp1)] w (nU tp1 0 0 w):=Ct acJ agZ acI (by decide) acH U9 w a
theorem aas (w:World)(a:Env w):Calls Tryz.prog 8 #[.string (aH zp2)] w (nU Gj 0 0 w):=Ct acM ag0 acL (by decide) acK U_ w a
theorem aav (w:World)(a:Env w):Calls Tryz.prog 8 #[.string (aH zp3)] w (nU tp3 0 0 w):=Ct acP ag1 acO (by decide) acN Va w a
theorem aay (w:World)(a:Env w):Calls Tryz.prog 8 #[.string (aH zp4)] w (nU tp4 0 0 w):=Ct acS ag2 acR (by decide) acQ Vb w a
end
set_option linter.all false
section
open Go.RowKit Mist
attribute [local go_sem] ah aM aV au ak
theorem agU:qc tp1 0 0=(zo1,0,0):=by unfold qc;rw [if_neg (by simp),agT];rfl
section
variable {W w:World} {A B:Option Addr} {c d:Nat} {xs:List NV} {its:List Int}
theorem kx2 (e:Env w)(f:Pow w)(hi:its=Gj.items)(a:aF xs=Gj.nodes)(b:rQ w A B xs its):O9 w A B xs its:=⟨b,by rw [a];exact aar,e,f⟩
theorem kt2 (hi:its=Gj.items)(a:aF xs=Gj.nodes):(⟨aF xs,its⟩:Tr)=Gj:=by rw [hi];exact (J9 a).symm
theorem aiE (X:O9 w A B xs its)(hi:its=Gj.items)(a:aF xs=Gj.nodes):Calls Tryz.prog 9 #[.agg #[.slice A xs.length c,.slice B its.length d],.int .i64 1] w fun e b=>e=.returned (.tuple #[.string (aH zo2),.int .i64 0])∧Below w.heap.size w b:=by
 have h:=OZ (c:=c) (d:=d) X 1 (by unfold Br;decide);rw [kt2 hi a,agV] at h
 exact h
theorem aiD (X:O9 w A B xs its)(hi:its=Gj.items)(a:aF xs=Gj.nodes):Calls Tryz.prog 9 #[.agg #[.slice A xs.length c,.slice B its.length d],.int .i64 0] w fun e b=>e=.returned (.tuple #[.string (aH zo3),.int .i64 0])∧Below w.heap.size w b:=by
 have h:=OZ (c:=c) (d:=d) X 0 (by unfold Br;decide);rw [kt2 hi a,agW] at h
 exact h
theorem aiC (X:O9 w A B xs its)(hi:its=Gj.items)(a:aF xs=Gj.nodes):Calls Tryz.prog 10 #[.agg #[.slice A xs.length c,.slice B its.length d],.int .i64 2,.int .i64 11] w fun e b=>e=.returned (.tuple #[.string (aH zo4),.int .i64 0])∧Below w.heap.size w b:=by
 have h:=ad1 (c:=c) (d:=d) X 2 11 (by unfold Br;decide) (by unfold Br;decide);rw [kt2 hi a,agX] at h
 exact h
theorem aiF (b:Env w)(f:Pow w):Calls Tryz.prog 7 #[.string (aH zp1)] w fun e a=>e=.returned (.tuple #[.string (aH zo1),.int .i64 0,.int .i64 0])∧Below w.heap.size w a:=by
 have h:=Yp (X:=0) (E:=0) aaq aiZ b f;rw [agU] at h
 exact h
theorem aiK (b:Env w):Calls Tryz.prog 5 #[.string (aH zp3),.string (aH zp4)] w fun e a=>e=.returned (.tuple #[.bool true,.int .i64 0])∧Below w.heap.size w a:=by
 have h:=Yt (X:=0) (Y:=0) (E:=0) (F:=0) aav aay ai0 ai1 ⟨by decide +kernel,by decide +kernel⟩ ⟨by decide +kernel,by decide +kernel⟩ b;rw [agY] at h
 exact h
theorem Jw (R:Env W)(U:Pow W):Calls Tryz.prog 4 #[] W fun e Y=>e=.returned (.bool true)∧Below W.heap.size W Y:=by
 have y:=O R;have P:=O U;clear R U;go_in
 go_wp2_with fail;refine (aiF y.o P.o).mono ?_;rintro e w1⟨rfl,r⟩;have h:=O r;clear r;go_wp2_with fail;refine (aas _ (y.o.below h.o)).mono ?_;rintro e b⟨t,A,B,c,d,xs,rfl,k,F⟩;obtain⟨its,a⟩:∃ its,its=Gj.items:=⟨_,rfl⟩;rw [← a] at F ⊢
 have f:=O (h.o.trans (t.mono h.o.size));have C:=O (kx2 (y.o.below f.o) (P.o.on f.o) a k F);have D:=O k;have g:=O a;have L:=O fun l (q:Below b.heap.size b l)=>aiE (c:=c) (d:=d) (C.o.below q) g.o D.o
 have K:=O fun l (q:Below b.heap.size b l)=>aiD (c:=c) (d:=d) (C.o.below q) g.o D.o
 have M:=O fun l (q:Below b.heap.size b l)=>aiC (c:=c) (d:=d) (C.o.below q) g.o D.o
 obtain⟨n,T⟩:∃ n,n=xs.length:=⟨_,rfl⟩;obtain⟨m,S⟩:∃ m,m=its.length:=⟨_,rfl⟩;rw [← T,← S] at L K M ⊢
 have N:=O (bf.new b 32 #[.slice A n c,.slice B m d]);have E:=O ((Below.refl b.heap.size b).alloc (ak0 _) (.cells #[.slice A n c,.slice B m d] 32));clear t k F a T S C D g;go_wp2_with fail;refine (L.o _ E.o).mono ?_;rintro e V⟨rfl,i⟩;have H:=O (E.o.trans (i.mono E.o.size));have x:=O (N.o.below i N.o.lt);have G:V.cell? ⟨b.heap.size,0,none⟩=some (.slice A n c):=x.o.cell 0;have c1:V.cell? ⟨b.heap.size,1,none⟩=some (.slice B m d):=x.o.cell 1;clear i;go_wp2_with fail;refine (K.o _ H.o).mono ?_;rintro e X⟨rfl,j⟩;have J:=O (H.o.trans (j.mono H.o.size));have Q:=O (x.o.below j x.o.lt);clear G c1;have G:X.cell? ⟨b.heap.size,0,none⟩=some (.slice A n c):=Q.o.cell 0;have c1:X.cell? ⟨b.heap.size,1,none⟩=some (.slice B m d):=Q.o.cell 1;clear j;go_wp2_with fail;refine (M.o _ J.o).mono ?_;rintro e w5⟨rfl,u⟩;have I:=O (f.o.trans ((J.o.trans (u.mono J.o.size)).mono f.o.size));clear u G c1;go_wp2_with fail;refine (aiK (y.o.below I.o)).mono ?_;rintro e w6⟨rfl,v⟩;have Z:=O (I.o.trans (v.mono I.o.size));clear v;go_upto_region 9 with (fail)
 go_wp2_with fail
 all_goals first
  | (go_ret;exact⟨rfl,Z.o⟩)
  | (exfalso;simp_all [zo1,zo2,zo3,zo4])
end
end
set_option linter.all false
section
open Go.RowKit Mist
attribute [local go_sem] ah aM aV au ak
theorem VX {T U:Tr}{X Y E F:Int}(b:Parsed T X E)(e:Parsed U Y F)(h0:E=0)(h1:F=0){r:Bool}(a:r=true↔T.nodes.map eZ=U.nodes.map eZ∧T.items=U.items):nQ T U E F=(r,0):=by
 have c1:fJ T=0:=by rcases b with h | h;exact absurd h0 h;exact h.2.2.1
 have c2:fJ U=0:=by rcases e with h | h;exact absurd h1 h;exact h.2.2.1
 unfold nQ;rw [if_neg (by simp [h0]),if_neg (by simp [h1])];unfold eqE two;simp only [c1,c2,ne_eq,not_true_eq_false,if_false]
 congr 1
 cases r with
 | true=>have h:=a.1 rfl;simp [h.1,h.2]
 | false =>
  rw [Bool.eq_false_iff];intro h;have h2:=a.2 (by simpa using h);cases h2
theorem abJ {W:World}{s t:Bs}{T U:Tr}{X Y E F:Int}(hP:∀ w,Calls Tryz.prog 12 #[.string (aH s)] w (nU T X E w))(hQ:∀ w,Calls Tryz.prog 12 #[.string (aH t)] w (nU U Y F w))(hT:Parsed T X E)(hU:Parsed U Y F)(C:T.nodes.length≤1000∧T.items.length≤1000)(D:U.nodes.length≤1000∧U.items.length≤1000) :
  Calls Tryz.prog 6 #[.string (aH s),.string (aH t)] W fun e W'=>e=.returned (.tuple #[.bool (nQ T U E F).1,.int .i64 (nQ T U E F).2])∧Below W.heap.size W W':=by
 have HP:=O (hP W);have HQ:=O hQ;have HT:=O hT;have HU:=O hU;have K:=O (And.intro C D);clear hP hQ hT hU C D;go_in
 go_wp2_with fail;refine HP.o.mono ?_;rintro e w1⟨i,A,B,c,d,xs,rfl,H,Jr⟩;have N:=O Jr;have a:=O (i.alloc i.size (.cells #[.slice A xs.length c,.slice B T.items.length d] 32));have J:=O (bf.new w1 32 #[.slice A xs.length c,.slice B T.items.length d]);have vM:=O ((Below.refl w1.heap.size w1).alloc (ak0 _) (.cells #[.slice A xs.length c,.slice B T.items.length d] 32));have Kh:=O H;obtain⟨n,Z⟩:∃ n,n=xs.length:=⟨_,rfl⟩;obtain⟨m,V⟩:∃ m,m=T.items.length:=⟨_,rfl⟩;rw [← Z,← V] at a J vM ⊢
 have x:=O (And.intro Z V);clear i H Jr Z V;by_cases h0:E=0
 case neg =>
  have y:=O (show nQ T U E F=(false,E) from by unfold nQ;rw [if_pos h0]);have z:(E != 0)=true:=by simpa using h0
  clear h0;go_wp2_with fail;go_ret2
  exact⟨(by rw [y.o];first | done | rfl),a.o⟩
 have v:=O h0;have z0:(E != 0)=false:=by simp [h0]
 have f:=HQ.o (w1.alloc (.cells #[.slice A n c,.slice B m d] 32));have WM:=O f;clear h0 f HQ HP;go_wp2_with fail;refine WM.o.mono ?_;rintro e I⟨b,L,B',R,S,ys,rfl,q,l⟩;have Q:=O ((N.o.below vM.o).below b);have HTB:=O l;have u:=O (a.o.trans (b.mono a.o.size));have wX:=O (J.o.below b J.o.lt);have P:=O q;have NY:=O fun W2 (hb:Below I.heap.size I W2)=>TH A B L B' c d R S xs ys T.items U.items W2 (Q.o.below hb) (l.below hb) (by have:=congrArg List.length Kh.o;rw [dL] at this;have:=K.o.1.1;omega) (by have:=congrArg List.length q;rw [dL] at this;have:=K.o.2.1;omega) (by have:=K.o.1.2;omega) (by have:=K.o.2.2;omega)
 obtain⟨n',k⟩:∃ n,n=ys.length:=⟨_,rfl⟩;obtain⟨m',j⟩:∃ m,m=U.items.length:=⟨_,rfl⟩;rw [← x.o.1,← x.o.2,← k,← j] at NY
 rw [← k,← j];have h:=O ((Below.refl I.heap.size I).alloc (ak0 _) (.cells #[.slice L n' R,.slice B' m' S] 32));have BX:=O (bf.new I 32 #[.slice L n' R,.slice B' m' S]);have XU:=O (wX.o.below h.o wX.o.lt);have g:=O (u.o.trans (h.o.mono u.o.size));clear b q l k j J vM WM;by_cases h1:F=0
 case neg =>
  have y:=O (show nQ T U E F=(false,F) from by unfold nQ;rw [if_neg (by simp [v.o]),if_pos h1]);have z:(F != 0)=true:=by simpa using h1
  clear h1;go_wp2_with fail;go_ret2
  exact⟨(by rw [y.o];first | done | rfl),g.o⟩
 have M:=O h1;have z1:(F != 0)=false:=by simp [h1]
 have a0:=XU.o.cell 0;have a1:=XU.o.cell 1;have a2:=BX.o.cell 0;have a3:=BX.o.cell 1;clear h1;go_wp2_with fail;refine (NY.o _ h.o).mono ?_;rintro e w4⟨G,r,rfl,hr⟩;have qM:=O (g.o.trans (G.mono g.o.size));rw [Kh.o,P.o] at hr
 have y:=O (VX HT.o HU.o v.o M.o hr);clear G hr a0 a1 a2 a3;go_wp2_with fail;go_ret2
 exact⟨(by rw [y.o];first | done | rfl),qM.o⟩
end
