/-
  A part of the proof.
-/
import Derived.Test.YthepmkjggfijoaaGreatDoorSA
import Derived.Test.YthepmkjggfijoaaGreatDoorS04
import Derived.Test.YthepmkjggfijoaaGreatDoorS07
import Derived.Test.YthepmkjggfijoaaGreatDoorS19
set_option linter.all false
set_option maxRecDepth 100000
set_option maxHeartbeats 4000000
namespace Go.Proofs.YthepmkjggfijoaaGreatDoor
open Go.RowKit Mist
attribute [local go_sem] aj aH aS aB ak
theorem jZ {w:World}{base e s n b i:Nat}{v u:Value}{a:List Value}(h:w.ownsRow base e s v n a)(d:b < base):(w.setCell ⟨b,i,none⟩ u).ownsRow base e s v n a :=
 ownsRow_setCell_other h (fun c=>by have:=(h.lt b c).1;omega) u
theorem sS {w:World}{base base' e s n:Nat}{v:Value}{a:List Value}(h:w.ownsRow base e s v n a)(c:base'≤base):w.ownsRow base' e s v n a:=kI h (fun k b=>by have:=(h.lt k b).1;omega)
structure uF (g:Nat) (w:World) (v:Value) (xs:List NV) (its:List Int):Prop where
 ex:∃ nv iv q,v=.agg #[nv,iv]∧w.ownsRow g 50 5 nv xs.length (iO xs)∧its.length=q∧w.ownsRow (g+1) 3 1 iv q (intCells its)
 kids:∀ x ∈ xs,w.ownsRow (g+1) 3 1 x.2 x.1.kids.length (intCells x.1.kids)
def Vd (l:List Tok)(en:Int)(w:World)(r:j6)(e:Ending)(w':World):Prop :=
 match r with
 | .ok its _ ns=>∃ v xs,e=.returned (.tuple #[v,.int .i64 0,.int .i64 0])∧aA xs=ns∧uF w.heap.size w' v xs its∧Below w.heap.size w w'
 | .bad k=>e=.returned (.tuple #[.agg #[.slice none 0 0,.slice none 0 0],.int .i64 (pl l en k),.int .i64 4])∧Below w.heap.size w w'
theorem UL {w a:World}{tv:Value}{l:List Tok}{g:Nat}(h:nC w tv l)(b:Below w.heap.size w a)(e:w.heap.size≤g):EA a g tv l:=by
 obtain⟨A,c,rfl,d,f⟩:=h;exact⟨A,c,rfl,d,(f.below b).more e⟩
section
variable {tv:Value} {l:List Tok} {en:Int} (hF:PF l)
include hF
theorem pr_new {w w1:World}(g:nC w tv l)(d:Env w)(b:Below w.heap.size w w1):PR w1.heap.size tv l en (.slice none 0 0) (w1.alloc (.cells #[tv,.int .i64 en,.int .i64 0,.slice none 0 0,.slice none 0 0] 107)) 0 [] (.slice none 0 0) [] 0:=by
 have h2:Below w.heap.size w (w1.alloc (.cells #[tv,.int .i64 en,.int .i64 0,.slice none 0 0,.slice none 0 0] 107)):=ah b b.size;obtain⟨B,f,d⟩:=d
 refine⟨⟨aC.new w1 _ _,World.ownsRow_nil _ _ _ _,(fun x a=>nomatch a),UL g h2 b.size,?_⟩,rfl,World.ownsRow_nil _ _ _ _,(fun x a=>nomatch a),(fun x a=>nomatch a)⟩
 intro e c;exact d e ((h2.mono f).trans (c.mono (Nat.le_trans f b.size)))
theorem KL (n f:Nat)(w:World)(r:j6)(hT:nC w tv l)(W:Env w)(hr:prog l en n f 0 [] []=some r) :
  Calls Tryz.prog 51 #[tv,.int .i64 en] w (Vd l en w r):=by
 have hmf:∀ (V:Fn) (first cap:Array Value) (w:World),(Instr.makeFunc V first cap).run Tryz.prog w=.ok (.func V first cap) w:=fun _ _ _ _=>rfl
 obtain⟨A,c,rfl,F,H⟩:=hT;have HT:=O (show nC w (.slice A l.length c) l from ⟨A,c,rfl,F,H⟩);clear H F;have HE:=O W;clear W;have HR:=O hr;clear hr;go_enter_defers Tryz.func51,Tryz.ntmps51
 have I:(w.alloc (.cells #[.slice none 0 0,.slice none 0 0] 26)).heap.size=w.heap.size+1:=by simp
 have J:((w.alloc (.cells #[.slice none 0 0,.slice none 0 0] 26)).alloc (.cells #[.int .i64 0] 3)).heap.size=w.heap.size+1+1:=by simp
 have K:(((w.alloc (.cells #[.slice none 0 0,.slice none 0 0] 26)).alloc (.cells #[.int .i64 0] 3)).alloc (.cells #[.int .i64 0] 27)).heap.size=w.heap.size+1+1+1:=by simp
 have a:=pr_new hF (en:=en) HT.o HE.o (w1:=(((w.alloc (.cells #[.slice none 0 0,.slice none 0 0] 26)).alloc (.cells #[.int .i64 0] 3)).alloc (.cells #[.int .i64 0] 27))) (ah (ah (ah (Below.refl _ _) (aaJ _)) (by simp)) (by simp;omega));rw [K] at a
 have E:=(((aC.new w 26 #[.slice none 0 0,.slice none 0 0]).alloc (.cells #[.int .i64 0] 3)).alloc (.cells #[.int .i64 0] 27)).alloc (.cells #[.slice A l.length c,.int .i64 en,.int .i64 0,.slice none 0 0,.slice none 0 0] 107);have j:=((aC.new (w.alloc (.cells #[.slice none 0 0,.slice none 0 0] 26)) 3 #[.int .i64 0]).alloc (.cells #[.int .i64 0] 27)).alloc (.cells #[.slice A l.length c,.int .i64 en,.int .i64 0,.slice none 0 0,.slice none 0 0] 107);rw [I] at j
 have k:=(aC.new ((w.alloc (.cells #[.slice none 0 0,.slice none 0 0] 26)).alloc (.cells #[.int .i64 0] 3)) 27 #[.int .i64 0]).alloc (.cells #[.slice A l.length c,.int .i64 en,.int .i64 0,.slice none 0 0,.slice none 0 0] 107);rw [J] at k
 have xA:=O (ah (ah (ah (ah (Below.refl w.heap.size w) (aaJ _) (o:=(.cells #[.slice none 0 0,.slice none 0 0] 26))) (by simp) (o:=(.cells #[.int .i64 0] 3))) (by simp;omega) (o:=(.cells #[.int .i64 0] 27))) (by simp;omega) (o:=(.cells #[.slice A l.length c,.int .i64 en,.int .i64 0,.slice none 0 0,.slice none 0 0] 107)));have YD:=O a;clear a;have y:=O E;clear E;have t:=O j;clear j;have U:=O k;clear k;clear I J K;go_wp2_with fail;refine (O5 hF n f _ 0 0 [] _ _ [] r YD.o (aaL _) (aaJ _) (aaJ _) (fun i nd h=>by simp [aA] at h) HR.o).mono ?_;intro e w5 Z
 cases r with
 | bad kb =>
  obtain⟨rfl,g⟩:=Z;have d:=y.o.below g (by omega);have C:=t.o.below g (by omega);have L:=U.o.below g (by omega);have R:=O g;clear g;unfold aI;go_wp2_with fail;refine leaves_cons (f:=92) (args:=#[.pointer (some ⟨w.heap.size,0,none⟩),.pointer (some ⟨w.heap.size+1,0,none⟩),.pointer (some ⟨w.heap.size+1+1,0,none⟩)]) (by simp) (by simp [go_sem]) ?_;refine (NP w.heap.size (w.heap.size+1) (w.heap.size+1+1) _ _ _ _ (pl l en kb) [] _ d C L (by omega) (by omega)).mono ?_;rintro e u' w6 ⟨rfl,rfl,S,X,Y,D⟩;have k0:=S.cell 0;have k1:=S.cell 1;have k2:=X.cell 0;have k3:=Y.cell 0;have B:=O (xA.o.trans ((R.o.mono (by omega)).trans D));clear S X Y D d C L;simp [Leaves,settle,results,Tryz.f51,go_sem,k0,k1,k2,k3]
  exact⟨rfl,B.o⟩
 | ok its k1 aJ =>
  obtain⟨⟨v,rfl⟩,⟨xs,nv,iv,q,a,G⟩,g⟩:=Z;obtain⟨N,Q,rfl⟩:=dh a.ps.own;obtain⟨M,P,rfl⟩:=dh a.row;have d:=y.o.below g (by omega);have C:=t.o.below g (by omega);have L:=U.o.below g (by omega);have R:=O g;clear g;have m:=O a;clear a;have rC:=O G;clear G;have g3:=m.o.ps.blk.cell 3;have g4:=m.o.ps.blk.cell 4;have t0:=d.cell 0;have t1:=d.cell 1;have a0:=C.cell 0;have e0:=L.cell 0;have ft0:=d.frozen 0;have ft1:=d.frozen 1;have fa0:=C.frozen 0;have fe0:=L.frozen 0;go_wp2_with fail;refine leaves_cons (f:=92) (args:=#[.pointer (some ⟨w.heap.size,0,none⟩),.pointer (some ⟨w.heap.size+1,0,none⟩),.pointer (some ⟨w.heap.size+1+1,0,none⟩)]) (by simp) (by simp [go_sem]) ?_;refine (Ro _ _ _ _).mono ?_;rintro e u' w6 ⟨rfl,rfl,rfl⟩;simp [Leaves,settle,results,Tryz.f51,go_sem,t0,t1,a0,e0]
  have uN:=O (xA.o.trans (R.o.mono (by omega)));have rn:=jZ (u:=.int .i64 0) (i:=0) (b:=w.heap.size+1+1) (jZ (u:=.int .i64 0) (i:=0) (b:=w.heap.size+1) (jZ (u:=.slice M q P) (i:=1) (b:=w.heap.size) (jZ (u:=.slice N xs.length Q) (i:=0) (b:=w.heap.size) m.o.ps.own (by omega)) (by omega)) (by omega)) (by omega);have ri:=jZ (u:=.int .i64 0) (i:=0) (b:=w.heap.size+1+1) (jZ (u:=.int .i64 0) (i:=0) (b:=w.heap.size+1) (jZ (u:=.slice M q P) (i:=1) (b:=w.heap.size) (jZ (u:=.slice N xs.length Q) (i:=0) (b:=w.heap.size) m.o.row (by omega)) (by omega)) (by omega)) (by omega)
  refine⟨_,xs,rfl,rC.o,⟨⟨_,_,q,rfl,sS rn (by omega),m.o.len,sS ri (by omega)⟩,fun x hx=>?_⟩,dx (dx (dx (dx uN.o (aaJ _)) (aaJ _)) (by omega)) (by omega)⟩
  have rk:=kI (base':=w.heap.size+1+1+1) (m.o.ps.kids x hx) (fun b g=>aaK (m.o.far x hx b g));have T:=jZ (u:=.int .i64 0) (i:=0) (b:=w.heap.size+1+1) (jZ (u:=.int .i64 0) (i:=0) (b:=w.heap.size+1) (jZ (u:=.slice M q P) (i:=1) (b:=w.heap.size) (jZ (u:=.slice N xs.length Q) (i:=0) (b:=w.heap.size) rk (by omega)) (by omega)) (by omega)) (by omega);exact sS T (by omega)
end
end Go.Proofs.YthepmkjggfijoaaGreatDoor
namespace Go.Proofs.YthepmkjggfijoaaGreatDoor
open Go.RowKit Mist
theorem sj (b o n:Nat):(⟨b,o,none⟩:Addr).add n=⟨b,o+n,none⟩:=by
 unfold Addr.add;split
 ·rename_i h;rw [h];rfl
 ·rfl
theorem dU (n lo hi:Int)(r:Bool)(c:Mist.within n lo hi=r)(w:World):Calls Tryz.prog 65 #[.int .i64 n,.int .i64 lo,.int .i64 hi] w fun e g=>e=.returned (.bool r)∧w=g:=by
 have b:=O c;clear c;by_cases h1:lo≤n
 ·have d:decide (lo≤n)=true:=aaU h1;by_cases h2:n≤hi
  ·have f:decide (n≤hi)=true:=aaU h2;have a:=O (show r=true by rw [← b.o];simp [Mist.within,h1,h2]);go_in
   go_wp2;go_ret;exact⟨bD a.o.symm,rfl⟩
  ·have f:decide (n≤hi)=false:=aaV h2;have a:=O (show r=false by rw [← b.o];simp [Mist.within,h2]);go_in
   go_wp2;go_ret;exact⟨bD a.o.symm,rfl⟩
 ·have d:decide (lo≤n)=false:=aaV h1;have a:=O (show r=false by rw [← b.o];simp [Mist.within,h1]);go_in
  go_wp2;go_ret;exact⟨bD a.o.symm,rfl⟩
theorem kind_of (k:Nat)(r:Bool)(c:iH k=r)(w:World):Calls Tryz.prog 161 #[.int .u8 k] w fun e g=>e=.returned (.bool r)∧w=g:=by
 have b:=O c;clear c;by_cases h1:30≤k
 ·have d:decide ((30:Int)≤(k:Int))=true:=aaU (by omega);by_cases h2:k≤33
  ·have f:decide ((k:Int)≤(33:Int))=true:=aaU (by omega);have a:=O (show r=true by rw [← b.o];simp [iH,h1,h2]);go_in
   go_wp2;go_ret;exact⟨bD a.o.symm,rfl⟩
  ·have f:decide ((k:Int)≤(33:Int))=false:=aaV (by omega);have a:=O (show r=false by rw [← b.o];simp [iH,h2]);go_in
   go_wp2;go_ret;exact⟨bD a.o.symm,rfl⟩
 ·have d:decide ((30:Int)≤(k:Int))=false:=aaV (by omega);have a:=O (show r=false by rw [← b.o];simp [iH,h1]);go_in
  go_wp2;go_ret;exact⟨bD a.o.symm,rfl⟩
theorem Cn (k:Nat)(r:Bool)(c:eP k=r)(w:World):Calls Tryz.prog 107 #[.int .u8 k] w fun e g=>e=.returned (.bool r)∧w=g:=by
 have b:=O c;clear c;by_cases h1:40≤k
 ·have d:decide ((40:Int)≤(k:Int))=true:=aaU (by omega);by_cases h2:k≤46
  ·have f:decide ((k:Int)≤(46:Int))=true:=aaU (by omega);have a:=O (show r=true by rw [← b.o];simp [eP,h1,h2]);go_in
   go_wp2;go_ret;exact⟨bD a.o.symm,rfl⟩
  ·have f:decide ((k:Int)≤(46:Int))=false:=aaV (by omega);have a:=O (show r=false by rw [← b.o];simp [eP,h2]);go_in
   go_wp2;go_ret;exact⟨bD a.o.symm,rfl⟩
 ·have d:decide ((40:Int)≤(k:Int))=false:=aaV (by omega);have a:=O (show r=false by rw [← b.o];simp [eP,h1]);go_in
  go_wp2;go_ret;exact⟨bD a.o.symm,rfl⟩
theorem Jw (k:Nat)(r:Bool)(c:lq k=r)(w:World):Calls Tryz.prog 69 #[.int .u8 k] w fun e h=>e=.returned (.bool r)∧w=h:=by
 have b:=O c;clear c;by_cases h1:1≤k
 ·have d:decide ((1:Int)≤(k:Int))=true:=aaU (by omega);by_cases h2:k≤26
  ·have f:decide ((k:Int)≤(26:Int))=true:=aaU (by omega);by_cases h3:k=25
   ·have g:((k:Int) != 25)=false:=by rw [h3];rfl
    have a:=O (show r=false by rw [← b.o];rw [h3];decide);go_in
    go_wp2;go_ret;exact⟨bD a.o.symm,rfl⟩
   ·have g:((k:Int) != 25)=true:=by rw [bne_iff_ne];omega
    have a:=O (show r=true by rw [← b.o];simp [lq,h1,h2,h3]);go_in
    go_wp2;go_ret;exact⟨bD a.o.symm,rfl⟩
  ·have f:decide ((k:Int)≤(26:Int))=false:=aaV (by omega);have a:=O (show r=false by rw [← b.o];simp [lq,h2]);go_in
   go_wp2;go_ret;exact⟨bD a.o.symm,rfl⟩
 ·have d:decide ((1:Int)≤(k:Int))=false:=aaV (by omega);have a:=O (show r=false by rw [← b.o];simp [lq,h1]);go_in
  go_wp2;go_ret;exact⟨bD a.o.symm,rfl⟩
theorem param_of (k:Nat)(r:Bool)(c:decide (k=34)=r)(w:World):Calls Tryz.prog 163 #[.int .u8 k] w fun e f=>e=.returned (.bool r)∧w=f:=by
 have b:=O c;clear c;by_cases h1:k=34
 ·have d:((k:Int) == 34)=true:=by rw [h1];rfl
  have a:=O (show r=true by rw [← b.o];simp [h1]);go_in
  go_wp2;go_ret;exact⟨bD a.o.symm,rfl⟩
 ·have d:((k:Int) == 34)=false:=by rw [aaF];omega
  have a:=O (show r=false by rw [← b.o];simp [h1]);go_in
  go_wp2;go_ret;exact⟨bD a.o.symm,rfl⟩
theorem put_of (k:Nat)(r:Bool)(c:decide (k=25)=r)(w:World):Calls Tryz.prog 160 #[.int .u8 k] w fun e f=>e=.returned (.bool r)∧w=f:=by
 have b:=O c;clear c;by_cases h1:k=25
 ·have d:((k:Int) == 25)=true:=by rw [h1];rfl
  have a:=O (show r=true by rw [← b.o];simp [h1]);go_in
  go_wp2;go_ret;exact⟨bD a.o.symm,rfl⟩
 ·have d:((k:Int) == 25)=false:=by rw [aaF];omega
  have a:=O (show r=false by rw [← b.o];simp [h1]);go_in
  go_wp2;go_ret;exact⟨bD a.o.symm,rfl⟩
theorem num_of (k:Nat)(r:Bool)(c:decide (k=1)=r)(w:World):Calls Tryz.prog 162 #[.int .u8 k] w fun e f=>e=.returned (.bool r)∧w=f:=by
 have b:=O c;clear c;by_cases h1:k=1
 ·have d:((k:Int) == 1)=true:=by rw [h1];rfl
  have a:=O (show r=true by rw [← b.o];simp [h1]);go_in
  go_wp2;go_ret;exact⟨bD a.o.symm,rfl⟩
 ·have d:((k:Int) == 1)=false:=by rw [aaF];omega
  have a:=O (show r=false by rw [← b.o];simp [h1]);go_in
  go_wp2;go_ret;exact⟨bD a.o.symm,rfl⟩
def MQ:Pd→Nat
 | .expr=>69
 | .typ=>161
 | .param=>163
 | .put=>160
 | .num=>162
def KM (p:Pd):Value:=.func (.func (MQ p)) #[] #[]
theorem O1 (p:Pd)(k:Nat)(r:Bool)(a:p.is k=r)(w:World):Calls Tryz.prog (MQ p) #[.int .u8 k] w fun e b=>e=.returned (.bool r)∧w=b:=by
 cases p with
 | expr=>exact Jw k r a w
 | typ=>exact kind_of k r a w
 | param=>exact param_of k r a w
 | put=>exact put_of k r a w
 | num=>exact num_of k r a w
theorem Vi (k:Nat)(r:Bool)(d:Pd.expr.is k=r)(w:World)(a b:Value)(g:Nat)(T:TypeId)(h:aC w g T #[a,b,KM .expr]):Calls Tryz.prog 167 #[.int .u8 k,.pointer (some ⟨g,0,none⟩)] w fun e f=>e=.returned (.bool (!r))∧w=f:=by
 have c2:=h.cell 2;have c:=O (O1 .expr k r d w);clear d;simp only [KM,MQ] at c2 c
 go_in
 go_wp2_with (refine c.o.mono ?_;rintro e f ⟨rfl,rfl⟩)
 go_ret;exact⟨rfl,rfl⟩
theorem Y_ (k:Nat)(r:Bool)(d:Pd.typ.is k=r)(w:World)(a b:Value)(g:Nat)(T:TypeId)(h:aC w g T #[a,b,KM .typ]):Calls Tryz.prog 167 #[.int .u8 k,.pointer (some ⟨g,0,none⟩)] w fun e f=>e=.returned (.bool (!r))∧w=f:=by
 have c2:=h.cell 2;have c:=O (O1 .typ k r d w);clear d;simp only [KM,MQ] at c2 c
 go_in
 go_wp2_with (refine c.o.mono ?_;rintro e f ⟨rfl,rfl⟩)
 go_ret;exact⟨rfl,rfl⟩
theorem Rm (k:Nat)(r:Bool)(d:Pd.param.is k=r)(w:World)(a b:Value)(g:Nat)(T:TypeId)(h:aC w g T #[a,b,KM .param]):Calls Tryz.prog 167 #[.int .u8 k,.pointer (some ⟨g,0,none⟩)] w fun e f=>e=.returned (.bool (!r))∧w=f:=by
 have c2:=h.cell 2;have c:=O (O1 .param k r d w);clear d;simp only [KM,MQ] at c2 c
 go_in
 go_wp2_with (refine c.o.mono ?_;rintro e f ⟨rfl,rfl⟩)
 go_ret;exact⟨rfl,rfl⟩
theorem Y9 (k:Nat)(r:Bool)(d:Pd.put.is k=r)(w:World)(a b:Value)(g:Nat)(T:TypeId)(h:aC w g T #[a,b,KM .put]):Calls Tryz.prog 167 #[.int .u8 k,.pointer (some ⟨g,0,none⟩)] w fun e f=>e=.returned (.bool (!r))∧w=f:=by
 have c2:=h.cell 2;have c:=O (O1 .put k r d w);clear d;simp only [KM,MQ] at c2 c
 go_in
 go_wp2_with (refine c.o.mono ?_;rintro e f ⟨rfl,rfl⟩)
 go_ret;exact⟨rfl,rfl⟩
theorem Y8 (k:Nat)(r:Bool)(d:Pd.num.is k=r)(w:World)(a b:Value)(g:Nat)(T:TypeId)(h:aC w g T #[a,b,KM .num]):Calls Tryz.prog 167 #[.int .u8 k,.pointer (some ⟨g,0,none⟩)] w fun e f=>e=.returned (.bool (!r))∧w=f:=by
 have c2:=h.cell 2;have c:=O (O1 .num k r d w);clear d;simp only [KM,MQ] at c2 c
 go_in
 go_wp2_with (refine c.o.mono ?_;rintro e f ⟨rfl,rfl⟩)
 go_ret;exact⟨rfl,rfl⟩
structure IntsIn (w:World) (A:Option Addr) (ks:List Int):Prop where
 ex:0 < ks.length→∃ b o,A=some ⟨b,o,none⟩∧b < w.heap.size∧∀ (j:Nat) k,ks[j]? = some k→w.cell? ⟨b,o+j,none⟩=some (.int .i64 k)
theorem IntsIn.below {w d:World}{A:Option Addr}{ks:List Int}(h:IntsIn w A ks)(a:Below w.heap.size w d):IntsIn d A ks :=
 ⟨fun h0=>by
  obtain⟨b,o,e,c,f⟩:=h.ex h0;exact⟨b,o,e,aaW c a.size,fun j k g=>(a.cell (by exact c)).trans (f j k g)⟩⟩
structure oZ (w:World) (b o:Nat) (xs:List NV):Prop where
 kids:DI w b o xs
 c0:∀ (i:Nat) x,xs[i]? = some x→w.cell? ⟨b,o+i * 5,none⟩=some (.int .u8 x.1.kind)
 c1:∀ (i:Nat) x,xs[i]? = some x→w.cell? ⟨b,o+i * 5+1,none⟩=some (.string (aM x.1.text))
 c2:∀ (i:Nat) x,xs[i]? = some x→w.cell? ⟨b,o+i * 5+2,none⟩=some (.int .i64 x.1.n)
 c4:∀ (i:Nat) x,xs[i]? = some x→w.cell? ⟨b,o+i * 5+4,none⟩=some (.int .i64 x.1.at_)
theorem oZ.lt {w:World}{b o:Nat}{xs:List NV}(h:oZ w b o xs):b < w.heap.size:=h.kids.lt
theorem oZ.c3 {w:World}{b o:Nat}{xs:List NV}(h:oZ w b o xs)(i:Nat)(x:NV)(a:xs[i]? = some x):w.cell? ⟨b,o+i * 5+3,none⟩=some x.2:=h.kids.kv i x a
theorem oZ.below {w d:World}{b o:Nat}{xs:List NV}(h:oZ w b o xs)(c:Below w.heap.size w d):oZ d b o xs :=
 ⟨h.kids.below c,fun i x a=>(c.cell (by exact h.lt)).trans (h.c0 i x a),fun i x a=>(c.cell (by exact h.lt)).trans (h.c1 i x a),fun i x a=>(c.cell (by exact h.lt)).trans (h.c2 i x a),fun i x a=>(c.cell (by exact h.lt)).trans (h.c4 i x a)⟩
theorem oZ.kid {w:World}{b o:Nat}{xs:List NV}(h:oZ w b o xs){i:Nat}{x:NV}(a:xs[i]? = some x):∃ A c,x.2=.slice A x.1.kids.length c∧x.1.kids.length≤1000000∧IntsIn w A x.1.kids:=by
 obtain⟨A,c,h1,h2,h3⟩:=h.kids.kids x (aaM a);exact⟨A,c,h1,h2,⟨h3⟩⟩
structure mq (w:World) (A B:Option Addr) (xs:List NV) (its:List Int):Prop where
 nodes:0 < xs.length→∃ b o,A=some ⟨b,o,none⟩∧oZ w b o xs
 items:IntsIn w B its
theorem mq.below {w d:World}{A B:Option Addr}{xs:List NV}{a:List Int}(h:mq w A B xs a)(c:Below w.heap.size w d):mq d A B xs a :=
 ⟨fun h0=>by obtain⟨b,o,e,f⟩:=h.nodes h0;exact⟨b,o,e,f.below c⟩,h.items.below c⟩
structure NdR (n:Nd):Prop where
 kind:n.kind < 256
 text:n.text.length≤100000000
 num:jq≤n.n∧n.n≤gq
 place:jq≤n.at_∧n.at_≤gq
 kids:∀ c ∈ n.kids,jq≤c∧c≤gq
def xO (ns:List Nd):Prop:=∀ n ∈ ns,NdR n
theorem gP {xs:List NV}{i:Nat}{x:NV}(h:xs[i]? = some x):(aA xs)[i]? = some x.1:=by unfold aA;rw [List.getElem?_map,h];rfl
theorem l7 {xs:List NV}{i:Nat}{x:NV}(a:List Int)(h:xs[i]? = some x):nd ⟨aA xs,a⟩ i=x.1:=kH (t:=⟨aA xs,a⟩) (gP h)
theorem jD {xs:List NV}{i:Nat}(h:i < xs.length):∃ x,xs[i]? = some x:=⟨_,aaD h⟩
theorem Kz:∀ (xs:List NV) (i k:Nat) (x:NV),xs[i]? = some x→k < 5→(iO xs)[i * 5+k]? = (fC x)[k]?
 | [],_,_,_,h,_=>by simp at h
 | y :: r,0,k,x,h,hk=>by
  have:y=x:=by simpa using h
  subst this;rw [show iO (y :: r)=fC y ++ iO r from rfl,List.getElem?_append_left (by simp [fC];omega)];simp
 | y :: r,i+1,k,x,h,hk=>by
  rw [show iO (y :: r)=fC y ++ iO r from rfl,List.getElem?_append_right (by simp [fC];omega)];have e:(i+1) * 5+k - (fC y).length=i * 5+k:=by simp [fC];omega
  rw [e];exact Kz r i k x (by simpa using h) hk
theorem yI {w:World}{base:Nat}{A:Option Addr}{n c:Nat}{ks:List Int}(h:w.ownsRow base 3 1 (.slice A n c) n (intCells ks))(e:n=ks.length):IntsIn w A ks:=by
 subst e
 refine⟨fun h0=>?_⟩
 obtain⟨g,cap,hv,_,a⟩:=h.form h0;have b:A=some ⟨g,0,none⟩:=by injection hv
 subst b
 refine⟨g,0,rfl,a,fun j k d=>?_⟩
 have:=h.cells (g:=g) rfl j (.int .i64 k) (by simp [intCells,d])
 rw [sj] at this
 exact this
theorem Ee {w:World}{base:Nat}{A:Option Addr}{c:Nat}{xs:List NV}(h:w.ownsRow base 50 5 (.slice A xs.length c) xs.length (iO xs))(h0:0 < xs.length)(t:∀ x ∈ xs,∃ m,w.ownsRow m 3 1 x.2 x.1.kids.length (intCells x.1.kids))(e:∀ x ∈ xs,x.1.kids.length≤1000000):∃ g,A=some ⟨g,0,none⟩∧oZ w g 0 xs:=by
 obtain⟨g,cap,hv,_,f⟩:=h.form h0;have r:A=some ⟨g,0,none⟩:=by injection hv
 subst r
 have b:∀ (i k:Nat) x u,xs[i]? = some x→k < 5→(fC x)[k]? = some u→w.cell? ⟨g,0+(i * 5+k),none⟩=some u:=by
  intro i k x u a d v
  have:=h.cells (g:=g) rfl (i * 5+k) u (by rw [Kz xs i k x a d];exact v)
  rw [sj] at this
  exact this
 refine⟨g,rfl,⟨f,fun i x a=>?_,fun x a=>?_⟩,fun i x a=>?_,fun i x a=>?_,fun i x a=>?_,fun i x a=>?_⟩
 ·exact b i 3 x _ a (by omega) rfl
 ·obtain⟨m,j⟩:=t x a;obtain⟨o,q,n⟩:=dh j;rw [n] at j
  exact⟨o,q,n,e x a,(yI j rfl).ex⟩
 ·exact b i 0 x _ a (by omega) rfl
 ·exact b i 1 x _ a (by omega) rfl
 ·exact b i 2 x _ a (by omega) rfl
 ·exact b i 4 x _ a (by omega) rfl
theorem uF.UH {g:Nat}{w:World}{v:Value}{xs:List NV}{a:List Int}(h:uF g w v xs a)(b:∀ x ∈ xs,x.1.kids.length≤1000000):∃ A B c d,v=.agg #[.slice A xs.length c,.slice B a.length d]∧mq w A B xs a:=by
 obtain⟨⟨nv,iv,q,rfl,h1,rfl,h2⟩,i⟩:=h;obtain⟨A,c,rfl⟩:=dh h1;obtain⟨B,d,rfl⟩:=dh h2
 refine⟨A,B,c,d,rfl,fun h0=>?_,yI h2 rfl⟩
 obtain⟨f,e,j⟩:=Ee h1 h0 (fun x k=>⟨_,i x k⟩) b;exact⟨f,0,e,j⟩
end Go.Proofs.YthepmkjggfijoaaGreatDoor
