/-
  A part of the proof.
-/
import Derived.LaidMore
import Derived.Lay
import Derived.Test.YtalghggmkojblaaGreatDoorTie
import Derived.Test.YtalghggmkojblaaGreatDoorS37
import Derived.Test.YtalghggmkojblaaGreatDoorS47
set_option linter.all false
set_option maxRecDepth 100000
set_option maxHeartbeats 4000000
namespace Go.Proofs.YtalghggmkojblaaGreatDoor
section
open Go.ChangeShapes Go.WideShapes Go.ChangeAt Go.RowKit
set_option maxRecDepth 100000
theorem aiT:ownKnob Tryz.prog.godebug=none:=by kernel_rfl
theorem zA {P:Program}{w:World}:∀ {l:List (String × DataW Unit)} {ps:List MemPlace},DataW.LaidVars P w l ps→∀ n d,(n,d) ∈ l →
  ∃ g t cs a p,P.globalNamed n=some g∧(P.globals[g]?).map (·.type)=some t∧w.var? P n=some cs∧DataW.trod (fun _=>()) P w 0 (fun _=>true) false a t cs.toList=some (d,p)
 | [],_,_,_,_,h=>by cases h
 | (n,d) :: r,ps,h,n',d',hm=>by
  obtain⟨g,t,cs,a,p,q,h1,h2,h3,h4,h5,_⟩:=h;rcases List.mem_cons.1 hm with b | c
  ·cases b;exact⟨g,t,cs,a,p,h1,h2,h3,h4⟩
  ·exact zA h5 n' d' c
theorem Em {P:Program}{W:World}{l:List (String × DataW Unit)}{a:String}{k:IntKind}{q:List Int}{g:Nat}{t e:TypeId}{n:Nat}
  (u:P.globalNamed a=some g) (j:(P.globals[g]?).map (·.type)=some t) (w:P.underlying t=some (.array n e)) (r:P.underlying e=some (.int k)) (c:P.cellsOf e=1) (d:P.cellsOf t=n)
  (h:laidMet P l W) (v:(a,Lib.tabData k q) ∈ l):Lib.TabIs P W a k q:=by
 obtain⟨ps,hv,_⟩:=h;obtain⟨g',x,cs,m,p,f,i,b,hd⟩:=zA hv _ _ v;obtain rfl:=amR (u.symm.trans f);obtain rfl:=amR (j.symm.trans i);unfold Lib.TabIs;rw [b,← Lib.cells_of_tab w r c d hd]
theorem xZ {H:Type}{enc:TypeId × Value→H}{P:Program}(i:laidOutB P=true){W f:World}(g:Below W.heap.size W f) :
  ∀ {a:List TypeId} {vs:List Value} {c:List (DataW H)} {ps:List MemPlace},(a.all fun t=>P.readableRec t && decide (t < P.types.size))=true→DataW.TrodAll enc P W 0 (fun _=>true) true a vs c ps→(∀ x ∈ ps,x.block < W.heap.size) →
   DataW.TrodAll enc P f 0 (fun b=>decide (b < W.heap.size)) true a vs c ps
 | [],[],[],_,_,h,_=>h
 | t :: a,v :: vs,d :: c,ps,ha,h,hlt=>by
  obtain⟨p,q,h1,h2,rfl⟩:=h;simp only [List.all_cons,amU,decide_eq_true_eq] at ha
  exact⟨p,q,Below.trod i ha.1.1 ha.1.2 h1 g (fun x e=>hlt x (List.mem_append_left _ e)),xZ i g ha.2 h2 (fun x e=>hlt x (List.mem_append_right _ e)),rfl⟩
 | [],_ :: _,_,_,_,h,_=>h.elim
 | [],[],_ :: _,_,_,h,_=>h.elim
 | _ :: _,[],_,_,_,h,_=>h.elim
 | _ :: _,_ :: _,[],_,_,h,_=>h.elim
theorem ahe {H:Type}{enc:TypeId × Value→H}{P:Program}{f:Func}{s:ChangeSpec}{apart fresh handsOn:Bool}{W g:World}{args:Array Value}{b c:List (DataW H)}{before:List MemPlace}{t:TypeId}
  (k:laidOutB P=true) (l:(f.params.toList.all fun t=>P.readableRec t && decide (t < P.types.size))=true) (hv:s.vars=[]) (e:f.resultTypes=#[t]) (m:P.underlying t=some .bool)
  (a:s.fn H (b ++ c)={ results:=[.lit (.bool true)],args:=b })
  (d:DataW.Whole enc P f.params.toList s.vars apart W args.toList b c before) (i:Below W.heap.size W g) :
  s.post enc P f apart fresh handsOn false W args (.bool true) g:=by
 obtain⟨p,q,j,r,rfl,_,_⟩:=id d
 refine⟨b,c,_,[],p,[],d,?_,?_,?_,Below.frame i _,fun h=>by cases h⟩
 ·rw [a,e];exact trodAll_mk1 (shut_bool m true)
 ·rw [a];exact xZ k i l j (fun x n=>d.lt x (List.mem_append_left _ n))
 ·rw [a,hv];exact rfl
theorem aiC:laidOutB Tryz.prog=true:=by kernel_rfl
theorem ahE:Tryz.prog.underlying 4=some .bool:=by kernel_rfl
theorem Uk:(Rows.laid_strings_asciiSpace:DataW Unit)=Lib.tabData IntKind.u8 Lib.asciiSpaceTab:=by kernel_rfl
theorem afv {l : List (String × DataW Unit)} {w : World} (h : laidMet Tryz.prog l w) (a : ("strings.asciiSpace", Rows.laid_strings_asciiSpace) ∈ l) : Env w := by
 rw [Uk] at a
 refine⟨w.heap.size,amL _,Lib.tabBelow_of_tabIs (Em (g:=0) (t:=172) (e:=5) (n:=256) (by kernel_rfl) (by kernel_rfl) (by kernel_rfl) (by kernel_rfl) (by kernel_rfl) (by kernel_rfl) h a)⟩
end
section
open Go.ChangeShapes Go.WideShapes Go.ChangeAt Go.RowKit Go.MapKept Go.ChangeMaps Mist
set_option maxRecDepth 100000
theorem ag':Tryz.prog.underlying 5=some (.int .u8):=by kernel_rfl
theorem aay:Tryz.prog.cellsOf 5=1:=by kernel_rfl
structure Nh (w:World) (A B:Option Addr) (xs:List NV) (its:List Int):Prop where
 nodes:0 < xs.length→∃ b o,A=some ⟨b,o,none⟩∧b < w.heap.size∧∀ (i k:Nat) x u,xs[i]? = some x→(iE x)[k]? = some u→w.cell? ⟨b,o+(i * 5+k),none⟩=some u
 kids:∀ x ∈ xs,∃ K c,x.2=.slice K x.1.kids.length c∧IntsIn w K x.1.kids
 items:IntsIn w B its
theorem Nh.below {w g:World}{A B:Option Addr}{xs:List NV}{a:List Int}(h:Nh w A B xs a)(d:Below w.heap.size w g):Nh g A B xs a :=
 ⟨fun h0=>by
  obtain⟨b,o,e,f,j⟩:=h.nodes h0;exact⟨b,o,e,amY f d.size,fun i k x u h1 h2=>(d.cell (by exact f)).trans (j i k x u h1 h2)⟩,
  fun x l=>by
  obtain⟨K,c,e,hi⟩:=h.kids x l;exact⟨K,c,e,hi.below d⟩,h.items.below d⟩
theorem Nh.tAt {w:World}{A B:Option Addr}{xs:List NV}{f:List Int}(h:Nh w A B xs f)(j:∀ x ∈ xs,x.1.kids.length≤1000000):uZ w A B xs f:=by
 refine⟨fun h0=>?_,h.items⟩
 obtain⟨b,o,e,k,d⟩:=h.nodes h0
 refine⟨b,o,e,⟨k,fun i x a=>d i 3 x _ a rfl,fun x a=>?_⟩,fun i x a=>d i 0 x _ a rfl,fun i x a=>d i 1 x _ a rfl,fun i x a=>d i 2 x _ a rfl,fun i x a=>d i 4 x _ a rfl⟩
 obtain⟨K,c,g,hi⟩:=h.kids x a;exact⟨K,c,g,j x a,hi.ex⟩
end
section
open Go.RowKit Mist
attribute [local go_sem] ak aN aV aF aj
theorem RowsIn.tAt {g:Nat}{w:World}{A B:Option Addr}{c d:Nat}{xs:List NV}{a:List Int}(h:RowsIn g w (.slice A xs.length c) (.slice B a.length d) xs a)(f:∀ x ∈ xs,x.1.kids.length≤1000000):uZ w A B xs a:=by
 refine⟨fun h0=>?_,BS h.row rfl⟩
 obtain⟨b,e,i⟩:=DI h.own h0 (fun x j=>⟨_,h.kids x j⟩) f;exact⟨b,0,e,i⟩
theorem Gj (A B:Option Addr)(c d:Nat)(ks ls:List Int)(w:World)(i:IntsIn w A ks)(k:IntsIn w B ls)(n:ks.length≤1000000)(r:ls.length≤1000000) :
  Calls Tryz.prog 77 #[.slice A ks.length c,.slice B ls.length d] w fun e b=>e=.returned (.bool (decide (ks=ls)))∧Below w.heap.size w b:=by
 by_cases h:ks.length=ls.length
 ·by_cases h0:ks.length=0
  ·have f:ks=[]:=List.length_eq_zero_iff.1 h0;have g:ls=[]:=List.length_eq_zero_iff.1 (h ▸ h0);subst f;subst g;refine (Tryz.slices_Equal_int_empty A B c 0 d w (by omega)).mono ?_;rintro e b ⟨rfl,rfl⟩;exact⟨by simp,Below.refl _ _⟩
  ·obtain⟨b1,l,rfl,_,h1⟩:=i.ex (by omega);obtain⟨b2,m,rfl,_,h2⟩:=k.ex (by omega);refine (Tryz.slices_Equal_int b1 l ks.length c b2 m ls.length d ks ls w (amL _) (amL _) (by omega) (by omega) (fun j a=>?_) (fun j a=>?_)).mono ?_
   ·rw [h1 j ks[j] (amF a)];simp [amJ,a]
   ·rw [h2 j ls[j] (amF a)];simp [amJ,a]
   ·rintro e b ⟨rfl,q,rfl⟩
    refine⟨?_,mJ (Below.refl _ _) _⟩
    rw [List.take_length,List.take_length]
    congr 2
    rw [amK];simp
 ·refine (Tryz.slices_Equal_int_lens A B ks.length c ls.length d w h).mono ?_;rintro e b ⟨rfl,rfl⟩
  refine⟨?_,Below.refl _ _⟩
  rw [amX (fun e=>h (by rw [e]))]
theorem SQ (x y:Nd)(A B:Option Addr)(c d:Nat)(w:World)(k:IntsIn w A x.kids)(l:IntsIn w B y.kids)(C:x.kids.length≤1000000)(D:y.kids.length≤1000000) :
  Calls Tryz.prog 76 #[.agg #[.int .u8 x.kind,.string (aG x.text),.int .i64 x.n,.slice A x.kids.length c,.int .i64 x.at_],.agg #[.int .u8 y.kind,.string (aG y.text),.int .i64 y.n,.slice B y.kids.length d,.int .i64 y.at_]] w fun e F=>e=.returned (.bool (decide (iP x=iP y)))∧Below w.heap.size w F:=by
 have b:=O (aU (aU (Below.refl w.heap.size w) (amL _) (o:=.cells #[.int .u8 x.kind,.string (aG x.text),.int .i64 x.n,.slice A x.kids.length c,.int .i64 x.at_] 56)) (by simp) (o:=.cells #[.int .u8 y.kind,.string (aG y.text),.int .i64 y.n,.slice B y.kids.length d,.int .i64 y.at_] 56));have g:=O fun W (m:Below w.heap.size w W)=>Gj A B c d x.kids y.kids W (k.below m) (l.below m) C D
 have a:∀ {p:Prop},(iP x=iP y→p)→¬ p→decide (iP x=iP y)=false:=fun h E=>amX (fun e=>E (h e))
 clear k l;by_cases h1:x.kind=y.kind
 case neg =>
  have t:((x.kind:Int) == (y.kind:Int))=false:=by rw [amH];omega
  have f:=O (a (p:=x.kind=y.kind) (fun e=>by have h9:=congrArg Nd.kind e;exact h9) h1);clear h1 a;go_in
  go_wp2_with fail;go_ret;exact⟨by rw [f.o];rfl,b.o⟩
 have t:((x.kind:Int) == (y.kind:Int))=true:=by simp [h1]
 by_cases h2:x.text=y.text
 case neg =>
  have u:(x.text == y.text)=false:=by simpa using h2
  have f:=O (a (p:=x.text=y.text) (fun e=>by have h9:=congrArg Nd.text e;exact h9) h2);have j:=O h1;clear h1 a;go_in
  go_wp2_with fail;go_ret;exact⟨by rw [f.o];rfl,b.o⟩
 have u:(x.text == y.text)=true:=by simpa using h2
 by_cases h3:x.n=y.n
 case neg =>
  have v:(x.n == y.n)=false:=by simpa using h3
  have f:=O (a (p:=x.n=y.n) (fun e=>by have h9:=congrArg Nd.n e;exact h9) h3);have j:=O h1;have q:=O h2;clear h1 h2 h3 a;go_in
  go_wp2_with fail;go_ret;exact⟨by rw [f.o];rfl,b.o⟩
 have v:(x.n == y.n)=true:=by simpa using h3
 have r:=O (show decide (iP x=iP y)=decide (x.kids=y.kids) by
  congr 1
  unfold iP;rw [h1,h2,h3];simp)
 have j:=O h1;have q:=O h2;have G:=O h3;clear h1 h2 h3 a;go_in
 go_wp2_with fail;refine (g.o _ b.o).mono ?_;rintro e w1⟨rfl,i⟩;go_wp2_with fail;go_ret;exact⟨by rw [r.o];first | rfl | simp,b.o.trans (i.mono b.o.size)⟩
theorem RQ (A B Y B':Option Addr)(c c':Nat)(xs j:List NV)(X Ay:List Int)(w:World)(hT:uZ w A B xs X)(hU:uZ w Y B' j Ay)(q:xs.length≤100000)(hy:j.length≤100000) :
  Calls Tryz.prog 75 #[.slice A xs.length c,.slice Y j.length c',.func (.func 76) #[] #[]] w fun e w'=>e=.returned (.bool (decide ((aH xs).map iP=(aH j).map iP)))∧Below w.heap.size w w':=by
 obtain⟨n,E⟩:∃ n,n=xs.length:=⟨_,rfl⟩;obtain⟨n',D⟩:∃ n,n=j.length:=⟨_,rfl⟩;rw [← E] at q ⊢
 rw [← D] at hy ⊢
 have HT:=O hT;clear hT;have HU:=O hU;clear hU;have P:=O E;clear E;have t:=O D;clear D;go_in
 by_cases T:n=n'
 case neg =>
  have q1:((n:Int) != (n':Int))=true:=by simp;omega
  have Q:=O (show decide ((aH xs).map iP=(aH j).map iP)=false from amX fun h=>T (by have:=congrArg List.length h;simp only [List.length_map,dK] at this;rw [P.o,t.o];exact this));clear T;go_wp2_with fail;go_ret;exact⟨by rw [Q.o];rfl,Below.refl _ _⟩
 subst T;have q1:((n:Int) != (n:Int))=false:=by simp
 go_wp2_with fail;go_loopw [17] (fun i wr=>∃ k:Nat,k≤n∧i=.int .i64 k∧Hid (((aH xs).take k).map iP=((aH j).take k).map iP)∧Hid (Below w.heap.size w wr)) (fun i _=>n - (intOf i).toNat)
 case atStart=>exact⟨0,amN _,rfl,O rfl,O (Below.refl _ _)⟩
 case round =>
  obtain⟨v,rfl⟩:∃ v:World,v=wr:=⟨_,rfl⟩;obtain⟨k,hk,rfl,Z,a⟩:=hrel;by_cases u:k < n
  ·have i3:decide (k < n)=true:=amW u;obtain⟨b,o,rfl,f⟩:=HT.o.nodes (by rw [← P.o];omega);obtain⟨F,N,rfl,g⟩:=HU.o.nodes (by rw [← t.o];omega);obtain⟨x,q⟩:∃ x,xs[k]? = some x:=nE (by rw [← P.o];exact u);obtain⟨y,hy⟩:∃ y,j[k]? = some y:=nE (by rw [← t.o];exact u);have c0:=(a.o.cell (p:=⟨b,o+k * 5,none⟩) f.lt).trans (f.c0 k x q);have c1:=(a.o.cell (p:=⟨b,o+k * 5+1,none⟩) f.lt).trans (f.c1 k x q);have c2:=(a.o.cell (p:=⟨b,o+k * 5+2,none⟩) f.lt).trans (f.c2 k x q);have c3:=(a.o.cell (p:=⟨b,o+k * 5+3,none⟩) f.lt).trans (f.c3 k x q);have c4:=(a.o.cell (p:=⟨b,o+k * 5+4,none⟩) f.lt).trans (f.c4 k x q);have d0:=(a.o.cell (p:=⟨F,N+k * 5,none⟩) g.lt).trans (g.c0 k y hy);have d1:=(a.o.cell (p:=⟨F,N+k * 5+1,none⟩) g.lt).trans (g.c1 k y hy);have d2:=(a.o.cell (p:=⟨F,N+k * 5+2,none⟩) g.lt).trans (g.c2 k y hy);have d3:=(a.o.cell (p:=⟨F,N+k * 5+3,none⟩) g.lt).trans (g.c3 k y hy);have d4:=(a.o.cell (p:=⟨F,N+k * 5+4,none⟩) g.lt).trans (g.c4 k y hy);obtain⟨Ka,ca,J,U,K⟩:=f.kid q;obtain⟨Kb,cb,L,V,M⟩:=g.kid hy;rw [J] at c3
   rw [L] at d3
   have H:=O (AQ q);have I:=O (AQ hy);have hb1:b < v.heap.size:=amY f.lt a.o.size;have hb2:F < v.heap.size:=amY g.lt a.o.size;have VX:=O fun W (hb:Below v.heap.size v W)=>SQ x.1 y.1 Ka Kb ca cb W ((K.below a.o).below hb) ((M.below a.o).below hb) U V
   clear f g q hy J L K M;have z0:(0:Int)≤(k:Int):=by omega
   have z1:(k:Int) < (n:Int):=by omega
   have d:=O (aU (aU (Below.refl v.heap.size v) (amL _) (o:=.cells #[.int .u8 x.1.kind,.string (aG x.1.text),.int .i64 x.1.n,.slice Ka x.1.kids.length ca,.int .i64 x.1.at_] 56)) (by simp) (o:=.cells #[.int .u8 y.1.kind,.string (aG y.1.text),.int .i64 y.1.n,.slice Kb y.1.kids.length cb,.int .i64 y.1.at_] 56));by_cases G:iP x.1=iP y.1
   ·have S:=O (show decide (iP x.1=iP y.1)=true from amW G)
    have xK:=O (show ((aH xs).take (k+1)).map iP=((aH j).take (k+1)).map iP by
     rw [List.take_add_one,List.take_add_one,H.o,I.o,List.map_append,List.map_append,Z.o];simp [G])
    clear G;go_wp2_with fail;refine (VX.o _ d.o).mono ?_;rintro e w2⟨rfl,m⟩;rw [S.o];have C:=O (a.o.trans ((d.o.trans (m.mono d.o.size)).mono a.o.size));clear m;go_wp2_with fail;exact⟨⟨k+1,by omega,by go_num,xK,C⟩,by simp [intOf];omega⟩
   ·have S:=O (show decide (iP x.1=iP y.1)=false from amX G)
    have Q:=O (show decide ((aH xs).map iP=(aH j).map iP)=false from amX fun h=>by
     refine VN (l:=(aH xs).map iP) (r:=(aH j).map iP) (k:=k) ?_ ?_ G h
     ·rw [List.getElem?_map,H.o];rfl
     ·rw [List.getElem?_map,I.o];rfl)
    clear G;go_wp2_with fail;refine (VX.o _ d.o).mono ?_;rintro e w2⟨rfl,m⟩;rw [S.o];have C:=O (a.o.trans ((d.o.trans (m.mono d.o.size)).mono a.o.size));clear m;go_wp2_with fail;go_ret;exact⟨by rw [Q.o];rfl,C.o⟩
  ·have i3:decide (k < n)=false:=amX u
   have R:=O (show decide ((aH xs).map iP=(aH j).map iP)=true from amW (by
    have h9:=Z.o
    rwa [amP (by rw [dK,← P.o];omega),amP (by rw [dK,← t.o];omega)] at h9))
   go_wp2_with fail;go_ret;exact⟨by rw [R.o];rfl,a.o⟩
end
section
open Go.RowKit Mist
attribute [local go_sem] ak aN aV aF aj
def two (T U:Tr):Int:=if fV T ≠ 0 then fV T else fV U
def eqE (T U:Tr):Bool × Int:=if two T U ≠ 0 then (false,two T U) else (decide (T.nodes.map iP=U.nodes.map iP) && decide (T.items=U.items),0)
theorem RG (A B F B':Option Addr)(c d M N g:Nat)(xs t:List NV)(j u:List Int)(w:World)(Y:uZ w A B xs j)(Z:uZ w F B' t u)(X:FL (aH xs))(hS:FL (aH t))(R:Env w)(hg:bY w g 28 #[.slice A xs.length c,.slice B j.length d,.slice F t.length M,.slice B' u.length N]) :
  Calls Tryz.prog 74 #[.slice (some ⟨g,0,none⟩) 2 2] w fun e w'=>e=.returned (.int .i64 (two ⟨aH xs,j⟩ ⟨aH t,u⟩))∧Below w.heap.size w w':=by
 have x:=O fun W (J:Below w.heap.size w W)=>sF A B c d xs j W (Y.below J) X (R.below J)
 have y:=O fun W (J:Below w.heap.size w W)=>sF F B' M N t u W (Z.below J) hS (R.below J)
 obtain⟨T,uo⟩:∃ T:Tr,T=⟨aH xs,j⟩:=⟨_,rfl⟩;obtain⟨U,I⟩:∃ U:Tr,U=⟨aH t,u⟩:=⟨_,rfl⟩;rw [← uo] at x ⊢
 rw [← I] at y ⊢
 clear uo I Y Z X hS R;have V:=O hg;clear hg;obtain⟨p,l⟩:∃ p,p=fV T:=⟨_,rfl⟩;obtain⟨q,n⟩:∃ q,q=fV U:=⟨_,rfl⟩;have P:=O (show two T U=if p ≠ 0 then p else q by unfold two;rw [l,n]);rw [← l] at x
 rw [← n] at y
 clear l n;go_in
 go_wp2_with fail;go_loopw [8] (fun i wr=>∃ k:Nat,k≤2∧i=.int .i64 k∧(0 < k→p=0)∧(1 < k→q=0)∧Hid (bY wr g 28 #[.slice A xs.length c,.slice B j.length d,.slice F t.length M,.slice B' u.length N])∧Hid (Below w.heap.size w wr)) (fun i _=>2 - (intOf i).toNat)
 case atStart=>exact⟨0,by omega,rfl,fun h=>absurd h (by omega),fun h=>absurd h (by omega),V,O (Below.refl _ _)⟩
 case round =>
  clear V;obtain⟨E,rfl⟩:∃ E:World,E=wr:=⟨_,rfl⟩;obtain⟨k,hk,rfl,m,D,r,G⟩:=hrel;have t0:=r.o.cell 0;have t1:=r.o.cell 1;have t2:=r.o.cell 2;have t3:=r.o.cell 3;have S:k=0∨k=1∨k=2:=by omega
  rcases S with rfl | rfl | rfl
  ·have b:=O (aU (Below.refl E.heap.size E) (amL _) (o:=.cells #[.slice A xs.length c,.slice B j.length d] 28));have a:=O (G.o.trans (b.o.mono G.o.size));go_wp2_with fail;refine (x.o _ a.o).mono ?_;rintro e w2⟨rfl,f⟩;have K:=O (a.o.trans (f.mono a.o.size));have C:=O (b.o.trans (f.mono b.o.size));clear f;by_cases l:p=0
   ·have Q:(p != 0)=false:=by simp [l]
    have v:=O (r.o.below C.o r.o.lt);have L:=O l;clear l;go_wp2_with fail;exact⟨⟨1,by omega,rfl,fun _=>L.o,fun h=>absurd h (by omega),v,K⟩,by simp [intOf]⟩
   ·have Q:(p != 0)=true:=by simpa using l
    have H:=O (show two T U=p by rw [P.o,if_pos l]);clear l;go_wp2_with fail;go_ret;exact⟨by rw [H.o];rfl,K.o⟩
  ·have l:=m (by omega);have L:=O l;have b:=O (aU (Below.refl E.heap.size E) (amL _) (o:=.cells #[.slice F t.length M,.slice B' u.length N] 28));have a:=O (G.o.trans (b.o.mono G.o.size));clear m D l;go_wp2_with fail;refine (y.o _ a.o).mono ?_;rintro e w2⟨rfl,f⟩;have K:=O (a.o.trans (f.mono a.o.size));have C:=O (b.o.trans (f.mono b.o.size));clear f;by_cases n:q=0
   ·have Q:(q != 0)=false:=by simp [n]
    have v:=O (r.o.below C.o r.o.lt);have HQ:=O n;clear n;go_wp2_with fail;exact⟨⟨2,by omega,rfl,fun _=>L.o,fun _=>HQ.o,v,K⟩,by simp [intOf]⟩
   ·have Q:(q != 0)=true:=by simpa using n
    have H:=O (show two T U=q by rw [P.o,if_neg (by rw [L.o];simp)]);clear n;go_wp2_with fail;go_ret;exact⟨by rw [H.o];rfl,K.o⟩
  ·have H:=O (show two T U=0 by rw [P.o,if_neg (by rw [m (by omega)];simp),D (by omega)]);clear m D;go_wp2_with fail;go_ret;exact⟨by rw [H.o];rfl,G.o⟩
theorem RU (A B i B':Option Addr)(c d j l:Nat)(xs b:List NV)(a f:List Int)(w:World)(L:uZ w A B xs a)(M:uZ w i B' b f)(X:FL (aH xs))(hS:FL (aH b))(V:Env w)(Y:xs.length≤100000)(hy:b.length≤100000)(hi:a.length≤100000)(hj:f.length≤100000) :
  Calls Tryz.prog 42 #[.agg #[.slice A xs.length c,.slice B a.length d],.agg #[.slice i b.length j,.slice B' f.length l]] w fun e w'=>e=.returned (.tuple #[.bool (eqE ⟨aH xs,a⟩ ⟨aH b,f⟩).1,.int .i64 (eqE ⟨aH xs,a⟩ ⟨aH b,f⟩).2])∧Below w.heap.size w w':=by
 have h:=O fun W (q:Below w.heap.size w W) g hg=>RG A B i B' c d j l g xs b a f W (L.below q) (M.below q) X hS (V.below q) hg
 have P:=O fun W (q:Below w.heap.size w W)=>RQ A B i B' c j xs b a f W (L.below q) (M.below q) Y hy
 have Q:=O fun W (q:Below w.heap.size w W)=>Gj B B' d l a f W (L.below q).items (M.below q).items (by omega) (by omega)
 obtain⟨T,S⟩:∃ T:Tr,T=⟨aH xs,a⟩:=⟨_,rfl⟩;obtain⟨U,y⟩:∃ U:Tr,U=⟨aH b,f⟩:=⟨_,rfl⟩;have K:=O (show eqE T U=if two T U ≠ 0 then (false,two T U) else (decide ((aH xs).map iP=(aH b).map iP) && decide (a=f),0) by rw [S,y];rfl);rw [← S,← y] at h ⊢
 clear S y L M X hS V Y hy hi hj;have v:=O (((bY.new w 28 #[.slice A xs.length c,.slice B a.length d]).alloc (.cells #[.slice i b.length j,.slice B' f.length l] 28)).alloc (.cells #[.slice A xs.length c,.slice B a.length d,.slice i b.length j,.slice B' f.length l] 28));have x:=O ((zH (W:=w.alloc (.cells #[.slice A xs.length c,.slice B a.length d] 28)) (T:=28) (cs:=#[.slice i b.length j,.slice B' f.length l]) (k:=w.heap.size+1) (by simp)).alloc (.cells #[.slice A xs.length c,.slice B a.length d,.slice i b.length j,.slice B' f.length l] 28));have G:=O (zH (W:=(w.alloc (.cells #[.slice A xs.length c,.slice B a.length d] 28)).alloc (.cells #[.slice i b.length j,.slice B' f.length l] 28)) (T:=28) (cs:=#[.slice A xs.length c,.slice B a.length d,.slice i b.length j,.slice B' f.length l]) (k:=w.heap.size+1+1) (by simp));have N:=O (aU (aU (aU (Below.refl w.heap.size w) (amL _) (o:=.cells #[.slice A xs.length c,.slice B a.length d] 28)) (by simp) (o:=.cells #[.slice i b.length j,.slice B' f.length l] 28)) (by simp;omega) (o:=.cells #[.slice A xs.length c,.slice B a.length d,.slice i b.length j,.slice B' f.length l] 28));go_in
 go_wp2_with fail;refine (h.o _ N.o _ G.o).mono ?_;rintro e w1⟨rfl,t⟩;have C:=O (v.o.below t v.o.lt);have F:=O (x.o.below t x.o.lt);have H:=O (N.o.trans (t.mono N.o.size));clear t v x G N h;have Z:=C.o.cell 0;have t1:=C.o.cell 1;have u0:=F.o.cell 0;have u1:=F.o.cell 1;obtain⟨E,J⟩:∃ E,E=two T U:=⟨_,rfl⟩;rw [← J] at K ⊢
 clear J;by_cases n:E=0
 case neg =>
  have e1:(E != 0)=true:=by simpa using n
  have I:=O (show eqE T U=(false,E) by rw [K.o,if_pos n]);clear n;go_wp2_with fail;go_ret2
  exact⟨by rw [I.o];rfl,H.o⟩
 subst n;have I:=O (show eqE T U=(decide ((aH xs).map iP=(aH b).map iP) && decide (a=f),0) by rw [K.o,if_neg (by simp)]);clear K;go_wp2_with fail;refine (P.o _ H.o).mono ?_;rintro e w2⟨rfl,u⟩;have D:=O (C.o.below u C.o.lt);have h:=O (F.o.below u F.o.lt);have m:=O (H.o.trans (u.mono H.o.size));clear u C F H Z t1 u0 u1;have Z:=D.o.cell 0;have t1:=D.o.cell 1;have u0:=h.o.cell 0;have u1:=h.o.cell 1
 generalize decide ((aH xs).map iP=(aH b).map iP)=r at I ⊢
 cases r
 ·go_wp2_with fail;go_ret2
  exact⟨by rw [I.o];rfl,m.o⟩
 ·go_wp2_with fail;refine (Q.o _ m.o).mono ?_;rintro e w3⟨rfl,R⟩;go_wp2_with fail;go_ret2
  exact⟨by rw [I.o];first | rfl | simp,m.o.trans (R.mono m.o.size)⟩
end
set_option linter.all false
section
open Go.RowKit Mist
attribute [local go_sem] ak aN aV aF aj
theorem uZ.aiw {w n:World}{A B:Option Addr}{xs:List NV}{m:List Int}{tb:Nat}(h:uZ w A B xs m)(v:w.heap.size≤n.heap.size)(l:∀ (o:Nat) k q,w.cell? ⟨tb,o,none⟩ ≠ some (.int k q))(g:∀ (b o:Nat),b ≠ tb→n.cell? ⟨b,o,none⟩=w.cell? ⟨b,o,none⟩):uZ n A B xs m:=by
 have f:∀ {C:Option Addr} {ks:List Int},IntsIn w C ks→IntsIn n C ks:=fun hi=>⟨fun h0=>by
  obtain⟨b,o,e,D,t⟩:=hi.ex h0
  refine⟨b,o,e,amY D v,fun j k u=>?_⟩
  rw [g b _ (fun r=>l (o+j) _ _ (by rw [← r];exact t j k u))];exact t j k u⟩
 refine⟨fun h0=>?_,f h.items⟩
 obtain⟨b,o,e,d⟩:=h.nodes h0;have a:b ≠ tb:=fun r=>l _ _ _ (by rw [← r];exact d.c0 0 _ (amF h0))
 refine⟨b,o,e,⟨⟨amY d.lt v,fun i x c=>(g b _ a).trans (d.c3 i x c),fun x c=>?_⟩,fun i x c=>(g b _ a).trans (d.c0 i x c),fun i x c=>(g b _ a).trans (d.c1 i x c),fun i x c=>(g b _ a).trans (d.c2 i x c),fun i x c=>(g b _ a).trans (d.c4 i x c)⟩⟩
 obtain⟨y,c1,h1,h2,h3⟩:=d.kids.kids x c;exact⟨y,c1,h1,h2,(f ⟨h3⟩).ex⟩
def Cn (T U:Tr)(E F:Int):Bool × Int:=if E ≠ 0 then (false,E) else if F ≠ 0 then (false,F) else eqE T U
def InT (w:World)(u v:Value)(T:Tr):Prop:=∃ (A B:Option Addr) (c d:Nat) (xs:List NV),u=.slice A xs.length c∧v=.slice B T.items.length d∧aH xs=T.nodes∧uZ w A B xs T.items
structure vC (T U:Tr) (E F:Int) (b k:Nat) (w:World):Prop where
 blk:∃ A0 A1 B0 B1:Option Addr,∃ n0 n1 m0 m1 c0 c1 d0 d1:Nat,bY w b 89 #[.slice A0 n0 c0,.slice B0 m0 d0,.slice A1 n1 c1,.slice B1 m1 d1] ∧
  (1≤k→E=0∧InT w (.slice A0 n0 c0) (.slice B0 m0 d0) T)∧(2≤k→F=0∧InT w (.slice A1 n1 c1) (.slice B1 m1 d1) U)
theorem InT.below {w a:World}{u v:Value}{T:Tr}(h:InT w u v T)(b:Below w.heap.size w a):InT a u v T:=by
 obtain⟨A,B,c,d,xs,h1,h2,h3,h4⟩:=h;exact⟨A,B,c,d,xs,h1,h2,h3,h4.below b⟩
theorem vC.below {T U:Tr}{E F:Int}{b k:Nat}{w d:World}(h:vC T U E F b k w)(c:Below w.heap.size w d):vC T U E F b k d:=by
 obtain⟨e,f,g,i,r,t,n,q,j,c1,l,m,h1,h2,h3⟩:=h.blk;exact⟨e,f,g,i,r,t,n,q,j,c1,l,m,h1.below c h1.lt,fun a=>⟨(h2 a).1,(h2 a).2.below c⟩,fun a=>⟨(h3 a).1,(h3 a).2.below c⟩⟩
theorem InT.set {w:World}{x y:Value}{T:Tr}{b i:Nat}{f g j l:Option Addr}{E F C D m c1 n r:Nat}(h:InT w x y T)(t:bY w b 89 #[.slice f E m,.slice j C n,.slice g F c1,.slice l D r])(u v:Value):InT ((w.setCell ⟨b,i,none⟩ u).setCell ⟨b,i+1,none⟩ v) x y T:=by
 obtain⟨A,B,c,d,xs,h1,h2,h3,h4⟩:=h
 refine⟨A,B,c,d,xs,h1,h2,h3,h4.aiw (tb:=b) (by simp) (fun o k q e=>?_) fun b o a=>?_⟩
 ·rw [t.cell o] at e
  match o with
  | 0=>simp at e
  | 1=>simp at e
  | 2=>simp at e
  | 3=>simp at e
  | o+4=>simp at e
 ·rw [World.cell?_setCell_other _ _ _ _ (by intro e;injection e with e;exact a e.symm),World.cell?_setCell_other _ _ _ _ (by intro e;injection e with e;exact a e.symm)]
theorem vC.one {T U:Tr}{E F:Int}{b:Nat}{w:World}(h:vC T U E F b 0 w){A B:Option Addr}{n m c d:Nat}(g:E=0)(j:InT w (.slice A n c) (.slice B m d) T):vC T U E F b 1 ((w.setCell ⟨b,0,none⟩ (.slice A n c)).setCell ⟨b,1,none⟩ (.slice B m d)):=by
 obtain⟨r,a,t,e,y,q,x,l,u,c1,v,f,h1,h2,h3⟩:=h.blk
 refine⟨A,a,B,e,n,q,m,l,c,c1,d,f,?_,fun _=>⟨g,j.set (i:=0) h1 _ _⟩,fun k=>absurd k (by omega)⟩
 have:=(h1.jX 0 (.slice A n c)).jX 1 (.slice B m d)
 simpa using this
theorem vC.two {T U:Tr}{E F:Int}{b:Nat}{w:World}(h:vC T U E F b 1 w){A B:Option Addr}{n m c d:Nat}(hF:F=0)(j:InT w (.slice A n c) (.slice B m d) U):vC T U E F b 2 ((w.setCell ⟨b,2,none⟩ (.slice A n c)).setCell ⟨b,3,none⟩ (.slice B m d)):=by
 obtain⟨a,q,e,r,l,x,k,v,f,c1,g,t,h1,h2,h3⟩:=h.blk
 refine⟨a,A,e,B,l,n,k,m,f,c,g,d,?_,fun _=>⟨(h2 (by omega)).1,(h2 (by omega)).2.set (i:=2) h1 _ _⟩,fun u=>⟨hF,j.set (i:=2) h1 _ _⟩⟩
 have:=(h1.jX 2 (.slice A n c)).jX 3 (.slice B m d)
 simpa using this
theorem ag7 (a b:Bs)(w:World):Sem.run Tryz.prog (Instr.index 90 (.agg #[.string (aG a),.string (aG b)]) (.int .i64 0)) w=.ok (.string (aG a)) w:=by kernel_rfl
theorem ag8 (a b:Bs)(w:World):Sem.run Tryz.prog (Instr.index 90 (.agg #[.string (aG a),.string (aG b)]) (.int .i64 1)) w=.ok (.string (aG b)) w:=by kernel_rfl
theorem agb {W:World}{s t:Bs}{T U:Tr}{X Y E F:Int}(hP:∀ w,Env w→Calls Tryz.prog 12 #[.string (aG s)] w (vB T X E w))(hQ:∀ w,Env w→Calls Tryz.prog 12 #[.string (aG t)] w (vB U Y F w))(hT:Parsed T X E)(hU:Parsed U Y F)(hTn:T.nodes.length≤1000∧T.items.length≤1000)(hUn:U.nodes.length≤1000∧U.items.length≤1000)(hE:Env W) :
  Calls Tryz.prog 13 #[.string (aG s),.string (aG t)] W fun e W'=>e=.returned (.tuple #[.bool (Cn T U E F).1,.int .i64 (Cn T U E F).2])∧Below W.heap.size W W':=by
 have HP:=O hP;have HQ:=O hQ;have HE:=O hE;have HT:=O hT;have HU:=O hU;have HN:=O (And.intro hTn hUn);have S:=O (show vC T U E F W.heap.size 0 (W.alloc (.cells #[.slice none 0 0,.slice none 0 0,.slice none 0 0,.slice none 0 0] 89)) from ⟨none,none,none,none,0,0,0,0,0,0,0,0,bY.new W _ _,fun h=>absurd h (by omega),fun h=>absurd h (by omega)⟩);have Q:=O ((Below.refl W.heap.size W).alloc (amL _) (.cells #[.slice none 0 0,.slice none 0 0,.slice none 0 0,.slice none 0 0] 89));clear hP hQ hE hT hU hTn hUn;go_in
 go_wp2_with fail;go_loopw [7,8,9,10,11,15] (fun _ _ _ _ _ J wr=>∃ k:Nat,k≤2∧J=.int .i64 k∧Hid (vC T U E F W.heap.size k wr)∧Hid (Below W.heap.size W wr)) (fun _ _ _ _ _ J _=>2 - (intOf J).toNat)
 case atStart=>exact⟨0,by omega,rfl,S,Q⟩
 case round =>
  obtain⟨k,hk,rfl,H,r⟩:=hrel;clear S Q;rcases (show k=0∨k=1∨k=2 by omega) with rfl | rfl | rfl
  ·have x:=ag7 s t wr;have g:=HP.o wr (HE.o.below r.o);have v:=O g;clear g;go_wp2_with fail;refine v.o.mono ?_;rintro e w1⟨q,A,B,c,d,xs,rfl,y,Z⟩;have a:=O (r.o.trans (q.mono r.o.size));have VY:=O (H.o.below q);have j:=O (show InT w1 (.slice A xs.length c) (.slice B T.items.length d) T from ⟨A,B,c,d,xs,rfl,rfl,y,Z⟩);obtain⟨n,hn⟩:∃ n,n=xs.length:=⟨_,rfl⟩;obtain⟨m,hm⟩:∃ m,m=T.items.length:=⟨_,rfl⟩;rw [← hn,← hm] at j ⊢
   clear x q y Z hn hm H r v;by_cases h0:E=0
   ·have I:=O ((Below.refl w1.heap.size w1).alloc (amL _) (.cells #[.slice A n c,.slice B m d] 28));have V:=O (VY.o.below I.o);have G:=O (j.o.below I.o);have f:=O (a.o.trans (I.o.mono a.o.size));have VZ:=O (V.o.one h0 G.o);have D:=O (gQ (b:=W.heap.size) (i:=0+1) (u:=.slice B m d) (gQ (b:=W.heap.size) (i:=0) (u:=.slice A n c) f.o (amL _)) (amL _));have z1:(E != 0)=false:=by simp [h0]
    obtain⟨L,M,N,P,n0,n1,m0,m1,c0,c1,d0,d1,h1,_,_⟩:=V.o.blk;have a0:=h1.cell 0;have a1:=h1.cell 1;have a2:=h1.cell 2;have a3:=h1.cell 3;have hlt:=h1.lt;have r0:=h1.frozen 0;have r1:=h1.frozen 1;clear h1;clear VY j;go_wp2_with fail;exact⟨⟨1,by omega,rfl,VZ,D⟩,by simp [intOf]⟩
   ·have z:(E != 0)=true:=by simpa using h0
    have K:=O (show Cn T U E F=(false,E) from by unfold Cn;rw [if_pos h0]);have f:=O (a.o.alloc a.o.size (.cells #[.slice A n c,.slice B m d] 28));clear h0;go_wp2_with fail;go_ret2
    exact⟨(by rw [K.o];first | done | rfl),f.o⟩
  ·have l:=O (show E=0 from by
    obtain⟨L,M,N,P,n0,n1,m0,m1,c0,c1,d0,d1,h1,h2,h3⟩:=H.o.blk;exact (h2 (by omega)).1)
   have x:=ag8 s t wr;have g:=HQ.o wr (HE.o.below r.o);have v:=O g;clear g;go_wp2_with fail;refine v.o.mono ?_;rintro e w1⟨q,A,B,c,d,xs,rfl,y,Z⟩;have a:=O (r.o.trans (q.mono r.o.size));have VY:=O (H.o.below q);have j:=O (show InT w1 (.slice A xs.length c) (.slice B U.items.length d) U from ⟨A,B,c,d,xs,rfl,rfl,y,Z⟩);obtain⟨n,hn⟩:∃ n,n=xs.length:=⟨_,rfl⟩;obtain⟨m,hm⟩:∃ m,m=U.items.length:=⟨_,rfl⟩;rw [← hn,← hm] at j ⊢
   clear x q y Z hn hm H r v;by_cases h0:F=0
   ·have I:=O ((Below.refl w1.heap.size w1).alloc (amL _) (.cells #[.slice A n c,.slice B m d] 28));have V:=O (VY.o.below I.o);have G:=O (j.o.below I.o);have f:=O (a.o.trans (I.o.mono a.o.size));have VZ:=O (V.o.two h0 G.o);have D:=O (gQ (b:=W.heap.size) (i:=2+1) (u:=.slice B m d) (gQ (b:=W.heap.size) (i:=2) (u:=.slice A n c) f.o (amL _)) (amL _));have z1:(F != 0)=false:=by simp [h0]
    obtain⟨L,M,N,P,n0,n1,m0,m1,c0,c1,d0,d1,h1,_,_⟩:=V.o.blk;have a0:=h1.cell 0;have a1:=h1.cell 1;have a2:=h1.cell 2;have a3:=h1.cell 3;have hlt:=h1.lt;have r0:=h1.frozen 2;have r1:=h1.frozen 3;clear h1;clear VY j;go_wp2_with fail;exact⟨⟨2,by omega,rfl,VZ,D⟩,by simp [intOf]⟩
   ·have z:(F != 0)=true:=by simpa using h0
    have K:=O (show Cn T U E F=(false,F) from by unfold Cn;rw [if_neg (by simp [l.o]),if_pos h0]);have f:=O (a.o.alloc a.o.size (.cells #[.slice A n c,.slice B m d] 28));clear h0;go_wp2_with fail;go_ret2
    exact⟨(by rw [K.o];first | done | rfl),f.o⟩
  ·have l:=O (show E=0∧F=0 from by
    obtain⟨L,M,N,P,n0,n1,m0,m1,c0,c1,d0,d1,h1,h2,h3⟩:=H.o.blk;exact⟨(h2 (by omega)).1,(h3 (by omega)).1⟩)
   obtain⟨L,M,N,P,n0,n1,m0,m1,c0,c1,d0,d1,h1,h2,h3⟩:=H.o.blk;obtain⟨A,B,c,d,xs,e1,e2,e3,e4⟩:=(h2 (by omega)).2;obtain⟨A',B',c',d',ys,e5,e6,e7,e8⟩:=(h3 (by omega)).2;injection e1 with q1 q2 q3
   injection e2 with q4 q5 q6
   injection e5 with q7 q8 q9
   injection e6 with q10 q11 q12
   subst q1 q2 q3 q4 q5 q6 q7 q8 q9 q10 q11 q12;have t1:=Mg e3;have t2:=Mg e7;have hTR:fV T=0∧FL T.nodes:=by rcases HT.o with h | h;exact absurd l.o.1 h;exact⟨h.2.2.1,h.2.2.2⟩
   have hUR:fV U=0∧FL U.nodes:=by rcases HU.o with h | h;exact absurd l.o.2 h;exact⟨h.2.2.1,h.2.2.2⟩
   have C:=O (RU L N M P c0 d0 c1 d1 xs ys T.items U.items wr e4 e8 (by rw [e3];exact hTR.2) (by rw [e7];exact hUR.2) (HE.o.below r.o) (by have:=congrArg List.length e3;rw [dK] at this;have:=HN.o.1.1;omega) (by have:=congrArg List.length e7;rw [dK] at this;have:=HN.o.2.1;omega) (by have:=HN.o.1.2;omega) (by have:=HN.o.2.2;omega));rw [← t1,← t2] at C
   have K:=O (show Cn T U E F=eqE T U from by unfold Cn;rw [if_neg (by simp [l.o.1]),if_neg (by simp [l.o.2])]);obtain⟨R,hR⟩:∃ R,R=eqE T U:=⟨_,rfl⟩;rw [← hR] at K C
   obtain⟨i0,hi0⟩:∃ i,i=T.items.length:=⟨_,rfl⟩;obtain⟨i1,hi1⟩:∃ i,i=U.items.length:=⟨_,rfl⟩;rw [← hi0,← hi1] at C h1
   have a0:=h1.cell 0;have a1:=h1.cell 1;have a2:=h1.cell 2;have a3:=h1.cell 3;clear h1 h2 h3 e3 e4 e7 e8 t1 t2 hTR hUR hR hi0 hi1 l;go_wp2_with fail;refine C.o.mono ?_;rintro e w2⟨rfl,hb2⟩;have f:=O (r.o.trans (hb2.mono r.o.size));clear hb2 a0 a1 a2 a3;go_wp2_with fail;go_ret2
   exact⟨(by rw [K.o];first | done | rfl),f.o⟩
end
end Go.Proofs.YtalghggmkojblaaGreatDoor
namespace Go.Proofs.YtalghggmkojblaaGreatDoor
section
open Go.RowKit Mist
def zp1:Bs:=[108,101,116,32,115,61,40,97,41,43,40,40,98,42,50,41,41,59,97,115,107,32,108,111,111,107,45,40,97,45,40,98,45,99,41,41,44,45,32,45,97,44,40,105,102,32,99,32,116,104,101,110,32,49,32,101,108,115,101,32,50,41,43,49,44,102,40,45,97,44,91,49,44,50,93,91,48,93,41,59]
def zp2:Bs:=[99,104,111,111,115,101,32,100,32,58,32,45,32,51,32,46,46,32,54,32,59,32,102,117,110,32,102,40,97,58,105,110,116,44,98,58,112,41,58,91,105,110,116,59,50,93,117,112,116,111,32,51,61,91,97,44,98,46,120,93,59,32,108,101,116,32,115,32,61,32,97,32,43,32,98,32,42,32,50,59]
def zp3:Bs:=[108,101,116,32,97,32,61,32,40,49,41,59]
def zp4:Bs:=[108,101,116,32,97,61,49,59]
def zo1:Bs:=[108,101,116,32,115,32,61,32,97,32,43,32,98,32,42,32,50,59,10,97,115,107,32,108,111,111,107,32,45,40,97,32,45,32,40,98,32,45,32,99,41,41,44,32,45,32,45,97,44,32,40,105,102,32,99,32,116,104,101,110,32,49,32,101,108,115,101,32,50,41,32,43,32,49,44,32,102,40,45,97,44,32,91,49,44,32,50,93,91,48,93,41,59,10]
def zo2:Bs:=[102,117,110,32,102,40,97,58,32,105,110,116,44,32,98,58,32,112,41,58,32,91,105,110,116,59,32,50,93,32,117,112,116,111,32,51,32,61,32,91,97,44,32,98,46,120,93,59]
def zo3:Bs:=[99,104,111,111,115,101,32,100,58,32,45,51,46,46,54,59]
def zo4:Bs:=[108,101,116,32,115,32,61,32,97,32,43,10,32,32,98,32,42,32,50,59]
def lp1:List Mist.Tok:=(Mist.read zp1).1
def tp1:Tr:=match prog lp1 (zp1.length:Int) 1000 50 0 [] [] with | some (.ok its _ ns)=>⟨ns,its⟩ | _=>⟨[],[]⟩
theorem aeE:Mist.read zp1=(lp1,0,0):=by decide +kernel
theorem aiU:PF lp1:=VD (by decide +kernel)
theorem aeD:prog lp1 (zp1.length:Int) 1000 50 0 [] []=some (.ok tp1.items lp1.length tp1.nodes):=by decide +kernel
theorem aeC:zB tp1:=Ca (by decide +kernel)
theorem XR:iH tp1=(0,0):=by decide +kernel
theorem ab':fV tp1=0:=by decide +kernel
theorem ab_:FL tp1.nodes:=Mf (by decide +kernel)
theorem akS:Parsed tp1 0 0:=.inr ⟨rfl,rfl,ab',ab_⟩
def lp2:List Mist.Tok:=(Mist.read zp2).1
def I9:Tr:=match prog lp2 (zp2.length:Int) 1000 50 0 [] [] with | some (.ok its _ ns)=>⟨ns,its⟩ | _=>⟨[],[]⟩
theorem aeH:Mist.read zp2=(lp2,0,0):=by decide +kernel
theorem aiV:PF lp2:=VD (by decide +kernel)
theorem aeG:prog lp2 (zp2.length:Int) 1000 50 0 [] []=some (.ok I9.items lp2.length I9.nodes):=by decide +kernel
theorem aeF:zB I9:=Ca (by decide +kernel)
theorem XT:iH I9=(0,0):=by decide +kernel
theorem ace:FL I9.nodes:=Mf (by decide +kernel)
def lp3:List Mist.Tok:=(Mist.read zp3).1
def tp3:Tr:=match prog lp3 (zp3.length:Int) 1000 50 0 [] [] with | some (.ok its _ ns)=>⟨ns,its⟩ | _=>⟨[],[]⟩
theorem aeK:Mist.read zp3=(lp3,0,0):=by decide +kernel
theorem aiW:PF lp3:=VD (by decide +kernel)
theorem aeJ:prog lp3 (zp3.length:Int) 1000 50 0 [] []=some (.ok tp3.items lp3.length tp3.nodes):=by decide +kernel
theorem aeI:zB tp3:=Ca (by decide +kernel)
theorem XU:iH tp3=(0,0):=by decide +kernel
theorem ach:fV tp3=0:=by decide +kernel
theorem acg:FL tp3.nodes:=Mf (by decide +kernel)
theorem akT:Parsed tp3 0 0:=.inr ⟨rfl,rfl,ach,acg⟩
def lp4:List Mist.Tok:=(Mist.read zp4).1
def tp4:Tr:=match prog lp4 (zp4.length:Int) 1000 50 0 [] [] with | some (.ok its _ ns)=>⟨ns,its⟩ | _=>⟨[],[]⟩
theorem aeN:Mist.read zp4=(lp4,0,0):=by decide +kernel
theorem aiX:PF lp4:=VD (by decide +kernel)
theorem aeM:prog lp4 (zp4.length:Int) 1000 50 0 [] []=some (.ok tp4.items lp4.length tp4.nodes):=by decide +kernel
theorem aeL:zB tp4:=Ca (by decide +kernel)
theorem XV:iH tp4=(0,0):=by decide +kernel
theorem acn:fV tp4=0:=by decide +kernel
theorem acj:FL tp4.nodes:=Mf (by decide +kernel)
theorem akU:Parsed tp4 0 0:=.inr ⟨rfl,rfl,acn,acj⟩
theorem aiH:Cc tp1=(zo1,0):=by decide +kernel
theorem aiJ:tC I9 1=(zo2,0):=by decide +kernel
theorem aiK:tC I9 0=(zo3,0):=by decide +kernel
theorem aiL:z_ I9 2 11=(zo4,0):=by decide +kernel
theorem aiM:Cn tp3 tp4 0 0=(true,0):=by decide +kernel
theorem ES {s:Bs}{l:List Mist.Tok}{n f k:Nat}{T:Tr}(q:Mist.read s=(l,0,0))(hF:PF l)(m:prog l (s.length:Int) n f 0 [] []=some (.ok T.items k T.nodes))(j:s.length≤100000000)(b:zB T)(i:iH T=(0,0))(w:World)(a:Env w) :
  Calls Tryz.prog 12 #[.string (aG s)] w (vB T 0 0 w) :=
 (aei w q hF m a j b i).mono fun e r h=>by
  obtain⟨g,A,B,c,d,xs,h1,h2,h3,_,h4⟩:=h;exact⟨g,A,B,c,d,xs,by rw [h3];exact h1,h2,h4⟩
theorem acd (w:World)(a:Env w):Calls Tryz.prog 12 #[.string (aG zp1)] w (vB tp1 0 0 w):=ES aeE aiU aeD (by decide) aeC XR w a
theorem acf (w:World)(a:Env w):Calls Tryz.prog 12 #[.string (aG zp2)] w (vB I9 0 0 w):=ES aeH aiV aeG (by decide) aeF XT w a
theorem aci (w:World)(a:Env w):Calls Tryz.prog 12 #[.string (aG zp3)] w (vB tp3 0 0 w):=ES aeK aiW aeJ (by decide) aeI XU w a
theorem aco (w:World)(a:Env w):Calls Tryz.prog 12 #[.string (aG zp4)] w (vB tp4 0 0 w):=ES aeN aiX aeM (by decide) aeL XV w a
end
set_option linter.all false
section
open Go.RowKit Mist
attribute [local go_sem] ak aN aV aF aj
theorem aiI:qg tp1 0 0=(zo1,0,0):=by unfold qg;rw [if_neg (by simp),aiH];rfl
section
variable {W w:World} {A B:Option Addr} {c d:Nat} {xs:List NV} {its:List Int}
theorem kx2 (e:Env w)(f:Pow w)(hi:its=I9.items)(a:aH xs=I9.nodes)(b:uZ w A B xs its):Rs w A B xs its:=⟨b,by rw [a];exact ace,e,f⟩
theorem kt2 (hi:its=I9.items)(a:aH xs=I9.nodes):(⟨aH xs,its⟩:Tr)=I9:=by rw [hi];exact (Mg a).symm
theorem akg (X:Rs w A B xs its)(hi:its=I9.items)(a:aH xs=I9.nodes):Calls Tryz.prog 6 #[.agg #[.slice A xs.length c,.slice B its.length d],.int .i64 1] w fun e b=>e=.returned (.tuple #[.string (aG zo2),.int .i64 0])∧Below w.heap.size w b:=by
 have h:=Rq (c:=c) (d:=d) X 1 (by unfold D9;decide);rw [kt2 hi a,aiJ] at h
 exact h
theorem akf (X:Rs w A B xs its)(hi:its=I9.items)(a:aH xs=I9.nodes):Calls Tryz.prog 6 #[.agg #[.slice A xs.length c,.slice B its.length d],.int .i64 0] w fun e b=>e=.returned (.tuple #[.string (aG zo3),.int .i64 0])∧Below w.heap.size w b:=by
 have h:=Rq (c:=c) (d:=d) X 0 (by unfold D9;decide);rw [kt2 hi a,aiK] at h
 exact h
theorem ake (X:Rs w A B xs its)(hi:its=I9.items)(a:aH xs=I9.nodes):Calls Tryz.prog 8 #[.agg #[.slice A xs.length c,.slice B its.length d],.int .i64 2,.int .i64 11] w fun e b=>e=.returned (.tuple #[.string (aG zo4),.int .i64 0])∧Below w.heap.size w b:=by
 have h:=afL (c:=c) (d:=d) X 2 11 (by unfold D9;decide) (by unfold D9;decide);rw [kt2 hi a,aiL] at h
 exact h
theorem aki (b:Env w)(f:Pow w):Calls Tryz.prog 11 #[.string (aG zp1)] w fun e a=>e=.returned (.tuple #[.string (aG zo1),.int .i64 0,.int .i64 0])∧Below w.heap.size w a:=by
 have h:=aao (X:=0) (E:=0) acd akS b f;rw [aiI] at h
 exact h
theorem akn (b:Env w):Calls Tryz.prog 13 #[.string (aG zp3),.string (aG zp4)] w fun e a=>e=.returned (.tuple #[.bool true,.int .i64 0])∧Below w.heap.size w a:=by
 have h:=agb (X:=0) (Y:=0) (E:=0) (F:=0) aci aco akT akU ⟨by decide +kernel,by decide +kernel⟩ ⟨by decide +kernel,by decide +kernel⟩ b;rw [aiM] at h
 exact h
theorem ai8 (R:Env W)(U:Pow W):Calls Tryz.prog 5 #[] W fun e Y=>e=.returned (.bool true)∧Below W.heap.size W Y:=by
 have y:=O R;have Q:=O U;clear R U;go_in
 go_wp2_with fail;refine (aki y.o Q.o).mono ?_;rintro e w1⟨rfl,t⟩;have h:=O t;clear t;go_wp2_with fail;refine (acf _ (y.o.below h.o)).mono ?_;rintro e b⟨u,A,B,c,d,xs,rfl,k,H⟩;obtain⟨its,a⟩:∃ its,its=I9.items:=⟨_,rfl⟩;rw [← a] at H ⊢
 have f:=O (h.o.trans (u.mono h.o.size));have C:=O (kx2 (y.o.below f.o) (Q.o.on f.o) a k H);have E:=O k;have g:=O a;have M:=O fun q (r:Below b.heap.size b q)=>akg (c:=c) (d:=d) (C.o.below r) g.o E.o
 have L:=O fun q (r:Below b.heap.size b q)=>akf (c:=c) (d:=d) (C.o.below r) g.o E.o
 have N:=O fun q (r:Below b.heap.size b q)=>ake (c:=c) (d:=d) (C.o.below r) g.o E.o
 obtain⟨n,T⟩:∃ n,n=xs.length:=⟨_,rfl⟩;obtain⟨m,S⟩:∃ m,m=its.length:=⟨_,rfl⟩;rw [← T,← S] at M L N ⊢
 have P:=O (bY.new b 28 #[.slice A n c,.slice B m d]);have G:=O ((Below.refl b.heap.size b).alloc (amL _) (.cells #[.slice A n c,.slice B m d] 28));clear u k H a T S C E g;go_wp2_with fail;refine (M.o _ G.o).mono ?_;rintro e V⟨rfl,i⟩;have J:=O (G.o.trans (i.mono G.o.size));have D:=O (P.o.below i P.o.lt);have I:V.cell? ⟨b.heap.size,0,none⟩=some (.slice A n c):=D.o.cell 0;have c1:V.cell? ⟨b.heap.size,1,none⟩=some (.slice B m d):=D.o.cell 1;clear i;go_wp2_with fail;refine (L.o _ J.o).mono ?_;rintro e X⟨rfl,j⟩;have F:=O (J.o.trans (j.mono J.o.size));have l:=O (D.o.below j D.o.lt);clear I c1;have I:X.cell? ⟨b.heap.size,0,none⟩=some (.slice A n c):=l.o.cell 0;have c1:X.cell? ⟨b.heap.size,1,none⟩=some (.slice B m d):=l.o.cell 1;clear j;go_wp2_with fail;refine (N.o _ F.o).mono ?_;rintro e w5⟨rfl,v⟩;have K:=O (f.o.trans ((F.o.trans (v.mono F.o.size)).mono f.o.size));clear v I c1;go_wp2_with fail;refine (akn (y.o.below K.o)).mono ?_;rintro e w6⟨rfl,x⟩;have Z:=O (K.o.trans (x.mono K.o.size));clear x;go_upto_region 9 with (fail)
 go_wp2_with fail
 all_goals first
  | (go_ret;exact⟨rfl,Z.o⟩)
  | (exfalso;simp_all [zo1,zo2,zo3,zo4])
end
end
section
open Go.ChangeShapes Go.WideShapes Go.ChangeAt Go.RowKit Go.MapKept Go.ChangeMaps Mist
theorem Yb:(Rows.laid_internal_strconv_uint64pow10:DataW Unit)=Lib.tabData IntKind.u64 Lib.pow10Tab:=by kernel_rfl
theorem aeY {l : List (String × DataW Unit)} {w : World} (h : laidMet Tryz.prog l w) (a : ("internal/strconv.uint64pow10", Rows.laid_internal_strconv_uint64pow10) ∈ l) : Pow w := by
 rw [Yb] at a
 exact Lib.tabBelow_of_tabIs (Em (g:=2) (t:=200) (e:=176) (n:=20) (by kernel_rfl) (by kernel_rfl) (by kernel_rfl) (by kernel_rfl) (by kernel_rfl) (by kernel_rfl) h a)
theorem Nl (a:Addr)(i j:Nat):(a.add i).add j=a.add (i+j):=by
 unfold Addr.add;by_cases hi:i=0 <;> by_cases b:j=0 <;> simp [hi,b,Nat.add_assoc]
def DV (l:Bs):List Value:=l.map fun b=>Value.int .u8 b.toNat
theorem Ih (l:Bs):(DV l).length=l.length:=by simp [DV]
def U8s (w:World)(v:Value)(l:Bs):Prop:=∃ A c,v=.slice A l.length c∧l.length≤c∧c≤140737488351232∧Reads w w.heap.size 1 A l.length (DV l)
theorem U8s.none_ (w:World):U8s w (.slice none 0 0) []:=⟨none,0,rfl,amL _,amN _,Reads.none_⟩
structure ajy (w:World) (b o:Nat) (l:Bs):Prop where
 lt:b < w.heap.size
 at_:∀ k,k < l.length→w.cell? ⟨b,o+k,none⟩=some (.int .u8 (gt l k).toNat)
theorem U8s.TT {w:World}{A:Option Addr}{n c:Nat}{l:Bs}(h:U8s w (.slice A n c) l)(h0:0 < l.length):∃ b o,A=some ⟨b,o,none⟩∧ajy w b o l:=by
 obtain⟨v,y,hv,C,_,u⟩:=h;injection hv with r D t
 subst r;obtain⟨ad,rfl,j,a⟩:=u.2 h0
 have e:∀ k,k < l.length→(DV l)[k]? = some (.int .u8 (gt l k).toNat):=by
  intro k i;simp [DV,gt,i]
 have g:=a 0 _ (e 0 h0);obtain⟨b,o,q⟩:=ad
 have m:q=none:=by
  cases q with
  | none=>rfl
  | some x =>
   exfalso
   simp only [Addr.add,if_pos] at g
   unfold World.cell? at g
   simp only [Option.isSome_some,if_true] at g
   split at g <;> simp at g
 subst m
 have f:∀ n,(⟨b,o,none⟩:Addr).add n=⟨b,o+n,none⟩:=by
  intro n;unfold Addr.add;split
  ·rename_i h;rw [h];rfl
  ·rfl
 refine⟨b,o,rfl,j,fun k i=>?_⟩
 have:=a k _ (e k i)
 rw [f] at this;exact this
set_option maxRecDepth 100000
theorem ae4 {H:Type}{enc:TypeId × Value→H}{W:World}{base j:Nat}{v:Value}{d:DataW H}{ps:List MemPlace}{U:List TypeId}{N:List (DataW H)}
  (y:Value.okWide Tryz.prog W .any base 23 v) (h:DataW.Trod enc Tryz.prog W 0 (fun _=>true) true 23 v d ps)
  (K:(DataW.weightsEach Tryz.prog U N).all (·≤reachBytes)=true) (ht:U[j]? = some 23) (hd:N[j]? = some d) :
  ∃ l:Bs,U8s W v l∧l.length≤4611686018427387904:=by
 obtain⟨M,agI,g,rfl⟩:=okWide_slice Tryz.underlying23 y;obtain⟨Q,Y⟩:=h;rcases Deep.open_slice Tryz.underlying23 Y with ⟨r,_⟩ | ⟨a,len,cap,m,n,D,Pl,r,_,J,R,hm,hx,G⟩
 ·have:(Value.slice M agI g)=.slice none 0 0:=by simpa [Value.cells] using r
  rw [this];exact⟨[],U8s.none_ W,by simp⟩
 ·have hv:(Value.slice M agI g)=.slice (some a) len cap:=by simpa [Value.cells] using r
  rw [hv];have hmc:m=cap:=by simpa using hm
  have C:∀ i,i < len→∃ b:UInt8,W.cells? 0 (a.add (i * 1)) 1=some [.int .u8 b.toNat]:=by
   intro i hi;obtain⟨cs',h1,h2⟩:=G i (by omega);rw [aay] at h1
   obtain⟨k,Z,hk2,I⟩:=DataW.trod_int ag' h2
   have hk4:0≤k∧k < 256:=by
    simp [Lit.wf,IntKind.min,IntKind.max,IntKind.signed,IntKind.bits] at I
    omega
   have V:cs'=[.int .u8 k]:=by simpa using Z
   refine⟨UInt8.ofNat k.toNat,?_⟩
   rw [h1,V,UInt8.toNat_ofNat',show ((k.toNat % 2 ^ 8:Nat):Int)=k by omega]
  obtain⟨f,x⟩:=Deep.choose_lt C;have F:d=.slice ((List.range len).map D) ((List.range (m - len)).map fun j=>D (len+j)):=(Prod.mk.inj hx).1;have e:((List.range len).map f).length=len:=by simp
  have L:=DataW.weights_mem_each (P:=Tryz.prog) ht hd;have t:=amT.1 K
  have E:cap * 1≤reachBytes:=by
   have h1:=t (cap * 1) (L _ (by
    rw [F];simp only [DataW.weights,Tryz.underlying23,List.mem_cons];left
    have X:Tryz.prog.bytesOf 5=1:=by kernel_rfl
    rw [X];simp;omega))
   simpa using h1
  have hr:reachBytes=140737488351232:=rfl
  refine⟨(List.range len).map f,?_,by rw [e];omega⟩
  refine⟨some a,cap,by rw [e],by rw [e];exact J,by omega,?_⟩
  refine⟨by rw [Ih,e];omega,fun h0=>⟨a,rfl,?_,?_⟩⟩
  ·have h1:=x 0 (by omega)
   have:=World.cells?_block h1 (by omega)
   simpa [zI] using this
  ·intro q u T
   have S:q < len:=by
    have h1:=(amG.1 T).1;rw [Ih,e] at h1
    exact h1
   have h1:=(World.cells?_some (x q S)).2.2 0 (by omega);rw [Nl,show q * 1+0=q by omega] at h1
   rw [h1];rw [← T];simp [DV,S]
theorem U8s.seed {w:World}{v:Value}{l:Bs}(h:U8s w v l):nY w w.heap.size v l:=by
 obtain⟨A,c,rfl,e,f,g⟩:=id h
 refine⟨A,c,rfl,e,by omega,fun h0=>?_⟩
 obtain⟨b,o,rfl,a⟩:=h.TT (by cases l with | nil=>exact absurd rfl h0 | cons=>simp);exact⟨b,o,rfl,a.lt,a.lt,a.at_⟩
set_option maxRecDepth 100000
theorem ae0:Tryz.prog.underlying 5=some (.int .u8):=by kernel_rfl
theorem Ph:Tryz.prog.underlying 24=some (.array 2 5):=by kernel_rfl
theorem X5:Tryz.prog.cellsOf 5=1:=by kernel_rfl
theorem Pk:Tryz.prog.cellsOf 24=2:=by kernel_rfl
theorem Lp {P:Program}{w:World}{r:Reach}{base:Nat}{t e:TypeId}{n:Nat}{v:Value}(a:P.underlying t=some (.array n e))(h:Value.okWide P w r base t v):∃ cs,v=.agg cs∧cs.size=P.cellsOf t:=by
 simp only [Value.okWide,a] at h
 obtain⟨cs,h1,h2,_⟩:=h;exact⟨cs,h1,h2⟩
theorem zL {H:Type}{enc:TypeId × Value→H}{w:World}{base:Nat}{j:Nat→Bool}{a:Bool}{n:Nat}{c:Value}{x:DataW H × List MemPlace}
  (h:DataW.trod enc Tryz.prog w base j a n 5 [c]=some x):∃ k:Nat,c=.int .u8 k∧k < 256∧x=(.lit (.int .u8 k),[]):=by
 obtain⟨k,g,b,e⟩:=DataW.trod_int ae0 h;have f:c=.int .u8 k:=by simpa using g
 have i:0≤k∧k < 256:=by
  simp [Lit.wf,IntKind.min,IntKind.max,IntKind.signed,IntKind.bits] at e
  omega
 obtain⟨k,rfl⟩:∃ m:Nat,k=m:=⟨k.toNat,by omega⟩;exact⟨k,f,by omega,b⟩
theorem LB {H:Type}{enc:TypeId × Value→H}{w:World}{base:Nat}{r:Nat→Bool}{g:Bool}{n:Nat}{cs:List Value}{x:DataW H × List MemPlace}
  (h:DataW.trod enc Tryz.prog w base r g n 24 cs=some x):∃ p:Nat × Nat,cs=[.int .u8 p.1,.int .u8 p.2]∧p.1 < 256∧p.2 < 256:=by
 obtain⟨xs,m,rfl,hd,e,k,f⟩:=DataW.trod_array Ph h;rw [Pk] at e
 obtain⟨l,c1,rfl⟩:∃ a b,cs=[a,b]:=by
  match cs,e with
  | [a,b],_=>exact⟨a,b,rfl⟩
 obtain⟨t,u,rfl⟩:∃ a b,xs=[a,b]:=by
  match xs,k with
  | [a,b],_=>exact⟨a,b,rfl⟩
 have h0:=f 0 (by omega);have h1:=f 1 (by omega);rw [X5] at h0 h1
 obtain⟨k0,rfl,i,_⟩:=zL (x:=t) (c:=l) h0;obtain⟨q,rfl,j,_⟩:=zL (x:=u) (c:=c1) h1;exact⟨(k0,q),rfl,i,j⟩
theorem aeQ {H:Type}{enc:TypeId × Value→H}{W:World}{base:Nat}{v:Value}{d:DataW H}{ps:List MemPlace}
  (a:Value.okWide Tryz.prog W .any base 24 v) (h:DataW.Trod enc Tryz.prog W 0 (fun _=>true) true 24 v d ps):∃ x y:Nat,v=.agg #[.int .u8 x,.int .u8 y]∧x < 256∧y < 256:=by
 obtain⟨cs,rfl,_⟩:=Lp Ph a;obtain⟨b,e⟩:=h;obtain⟨⟨x,y⟩,f,g,hy⟩:=LB e
 refine⟨x,y,?_,g,hy⟩
 have:cs.toList=[.int .u8 x,.int .u8 y]:=f
 congr 1
 rw [← Array.toArray_toList (xs:=cs),this]
end
