/-
  A part of the proof.
-/
import Derived.Test.YtalghggmkojblaaGreatDoorS04
import Derived.Test.YtalghggmkojblaaGreatDoorS17
set_option linter.all false
set_option maxRecDepth 100000
set_option maxHeartbeats 4000000
namespace Go.Proofs.YtalghggmkojblaaGreatDoor
section
open Go.RowKit Mist
attribute [local go_sem] ak aN aV aF aj
theorem kN {w:World}{base e s n b i:Nat}{v u:Value}{a:List Value}(h:w.ownsRow base e s v n a)(d:b < base):(w.setCell ⟨b,i,none⟩ u).ownsRow base e s v n a :=
 ownsRow_setCell_other h (fun c=>by have:=(h.lt b c).1;omega) u
theorem Lx {w:World}{base base' e s n:Nat}{v:Value}{a:List Value}(h:w.ownsRow base e s v n a)(c:base'≤base):w.ownsRow base' e s v n a:=jr h (fun k b=>by have:=(h.lt k b).1;omega)
structure su (g:Nat) (w:World) (v:Value) (xs:List NV) (its:List Int):Prop where
 ex:∃ nv iv q,v=.agg #[nv,iv]∧w.ownsRow g 56 5 nv xs.length (jC xs)∧its.length=q∧w.ownsRow (g+1) 3 1 iv q (intCells its)
 kids:∀ x ∈ xs,w.ownsRow (g+1) 3 1 x.2 x.1.kids.length (intCells x.1.kids)
def Wn (l:List Tok)(en:Int)(w:World)(r:j5)(e:Ending)(w':World):Prop :=
 match r with
 | .ok its _ ns=>∃ v xs,e=.returned (.tuple #[v,.int .i64 0,.int .i64 0])∧aH xs=ns∧su w.heap.size w' v xs its∧Below w.heap.size w w'
 | .bad k=>e=.returned (.tuple #[.agg #[.slice none 0 0,.slice none 0 0],.int .i64 (pl l en k),.int .i64 4])∧Below w.heap.size w w'
theorem afa {w a:World}{tv:Value}{l:List Tok}{g:Nat}(h:oZ w tv l)(b:Below w.heap.size w a)(e:w.heap.size≤g):FJ a g tv l:=by
 obtain⟨A,c,rfl,d,f⟩:=h;exact⟨A,c,rfl,d,(f.below b).more e⟩
section
variable {tv:Value} {l:List Tok} {en:Int} (hF:PF l)
include hF
theorem ag0 {w w1:World}(g:oZ w tv l)(d:Env w)(b:Below w.heap.size w w1):PR w1.heap.size tv l en (.slice none 0 0) (w1.alloc (.cells #[tv,.int .i64 en,.int .i64 0,.slice none 0 0,.slice none 0 0] 126)) 0 [] (.slice none 0 0) [] 0:=by
 have h2:Below w.heap.size w (w1.alloc (.cells #[tv,.int .i64 en,.int .i64 0,.slice none 0 0,.slice none 0 0] 126)):=aU b b.size;obtain⟨B,f,d⟩:=d
 refine⟨⟨bY.new w1 _ _,World.ownsRow_nil _ _ _ _,(fun x a=>nomatch a),afa g h2 b.size,?_⟩,rfl,World.ownsRow_nil _ _ _ _,(fun x a=>nomatch a),(fun x a=>nomatch a)⟩
 intro e c;exact d e ((h2.mono f).trans (c.mono (Nat.le_trans f b.size)))
theorem XY (n f:Nat)(w:World)(r:j5)(hT:oZ w tv l)(V:Env w)(Z:prog l en n f 0 [] []=some r) :
  Calls Tryz.prog 38 #[tv,.int .i64 en] w (Wn l en w r):=by
 have hmf:∀ (U:Fn) (first cap:Array Value) (w:World),(Instr.makeFunc U first cap).run Tryz.prog w=.ok (.func U first cap) w:=fun _ _ _ _=>rfl
 obtain⟨A,c,rfl,D,F⟩:=hT;have HT:=O (show oZ w (.slice A l.length c) l from ⟨A,c,rfl,D,F⟩);clear F D;have HE:=O V;clear V;have HR:=O Z;clear Z;go_enter_defers Tryz.func38,Tryz.ntmps38
 have G:(w.alloc (.cells #[.slice none 0 0,.slice none 0 0] 28)).heap.size=w.heap.size+1:=by simp
 have H:((w.alloc (.cells #[.slice none 0 0,.slice none 0 0] 28)).alloc (.cells #[.int .i64 0] 3)).heap.size=w.heap.size+1+1:=by simp
 have I:(((w.alloc (.cells #[.slice none 0 0,.slice none 0 0] 28)).alloc (.cells #[.int .i64 0] 3)).alloc (.cells #[.int .i64 0] 32)).heap.size=w.heap.size+1+1+1:=by simp
 have a:=ag0 hF (en:=en) HT.o HE.o (w1:=(((w.alloc (.cells #[.slice none 0 0,.slice none 0 0] 28)).alloc (.cells #[.int .i64 0] 3)).alloc (.cells #[.int .i64 0] 32))) (aU (aU (aU (Below.refl _ _) (amL _)) (by simp)) (by simp;omega));rw [I] at a
 have C:=(((bY.new w 28 #[.slice none 0 0,.slice none 0 0]).alloc (.cells #[.int .i64 0] 3)).alloc (.cells #[.int .i64 0] 32)).alloc (.cells #[.slice A l.length c,.int .i64 en,.int .i64 0,.slice none 0 0,.slice none 0 0] 126);have j:=((bY.new (w.alloc (.cells #[.slice none 0 0,.slice none 0 0] 28)) 3 #[.int .i64 0]).alloc (.cells #[.int .i64 0] 32)).alloc (.cells #[.slice A l.length c,.int .i64 en,.int .i64 0,.slice none 0 0,.slice none 0 0] 126);rw [G] at j
 have k:=(bY.new ((w.alloc (.cells #[.slice none 0 0,.slice none 0 0] 28)).alloc (.cells #[.int .i64 0] 3)) 32 #[.int .i64 0]).alloc (.cells #[.slice A l.length c,.int .i64 en,.int .i64 0,.slice none 0 0,.slice none 0 0] 126);rw [H] at k
 have T:=O (aU (aU (aU (aU (Below.refl w.heap.size w) (amL _) (o:=(.cells #[.slice none 0 0,.slice none 0 0] 28))) (by simp) (o:=(.cells #[.int .i64 0] 3))) (by simp;omega) (o:=(.cells #[.int .i64 0] 32))) (by simp;omega) (o:=(.cells #[.slice A l.length c,.int .i64 en,.int .i64 0,.slice none 0 0,.slice none 0 0] 126)));have V_:=O a;clear a;have t:=O C;clear C;have R:=O j;clear j;have S:=O k;clear k;clear G H I;go_wp2_with fail;refine (Pp hF n f _ 0 0 [] _ _ [] r V_.o (amN _) (amL _) (amL _) (fun i nd h=>by simp [aH] at h) HR.o).mono ?_;intro e w5 Y
 cases r with
 | bad kb =>
  obtain⟨rfl,g⟩:=Y;have d:=t.o.below g (by omega);have y:=R.o.below g (by omega);have J:=S.o.below g (by omega);have P:=O g;clear g;unfold aY;go_wp2_with fail;refine leaves_cons (f:=67) (args:=#[.pointer (some ⟨w.heap.size,0,none⟩),.pointer (some ⟨w.heap.size+1,0,none⟩),.pointer (some ⟨w.heap.size+1+1,0,none⟩)]) (by simp) (by simp [go_sem]) ?_;refine (NH w.heap.size (w.heap.size+1) (w.heap.size+1+1) _ _ _ _ (pl l en kb) [] _ d y J (by omega) (by omega)).mono ?_;rintro e u' w6 ⟨rfl,rfl,Q,W,X,B⟩;have k0:=Q.cell 0;have k1:=Q.cell 1;have k2:=W.cell 0;have k3:=X.cell 0;have ZM:=O (T.o.trans ((P.o.mono (by omega)).trans B));clear Q W X B d y J;simp [Leaves,settle,results,Tryz.f38,go_sem,k0,k1,k2,k3]
  exact⟨rfl,ZM.o⟩
 | ok its k1 dI =>
  obtain⟨⟨v,rfl⟩,⟨xs,nv,iv,q,a,E⟩,g⟩:=Y;obtain⟨L,N,rfl⟩:=dA a.ps.own;obtain⟨K,M,rfl⟩:=dA a.row;have d:=t.o.below g (by omega);have y:=R.o.below g (by omega);have J:=S.o.below g (by omega);have P:=O g;clear g;have m:=O a;clear a;have Y5:=O E;clear E;have g3:=m.o.ps.blk.cell 3;have g4:=m.o.ps.blk.cell 4;have t0:=d.cell 0;have t1:=d.cell 1;have a0:=y.cell 0;have e0:=J.cell 0;have ft0:=d.frozen 0;have ft1:=d.frozen 1;have fa0:=y.frozen 0;have fe0:=J.frozen 0;go_wp2_with fail;refine leaves_cons (f:=67) (args:=#[.pointer (some ⟨w.heap.size,0,none⟩),.pointer (some ⟨w.heap.size+1,0,none⟩),.pointer (some ⟨w.heap.size+1+1,0,none⟩)]) (by simp) (by simp [go_sem]) ?_;refine (Rz _ _ _ _).mono ?_;rintro e u' w6 ⟨rfl,rfl,rfl⟩;simp [Leaves,settle,results,Tryz.f38,go_sem,t0,t1,a0,e0]
  have t_:=O (T.o.trans (P.o.mono (by omega)));have rn:=kN (u:=.int .i64 0) (i:=0) (b:=w.heap.size+1+1) (kN (u:=.int .i64 0) (i:=0) (b:=w.heap.size+1) (kN (u:=.slice K q M) (i:=1) (b:=w.heap.size) (kN (u:=.slice L xs.length N) (i:=0) (b:=w.heap.size) m.o.ps.own (by omega)) (by omega)) (by omega)) (by omega);have ri:=kN (u:=.int .i64 0) (i:=0) (b:=w.heap.size+1+1) (kN (u:=.int .i64 0) (i:=0) (b:=w.heap.size+1) (kN (u:=.slice K q M) (i:=1) (b:=w.heap.size) (kN (u:=.slice L xs.length N) (i:=0) (b:=w.heap.size) m.o.row (by omega)) (by omega)) (by omega)) (by omega)
  refine⟨_,xs,rfl,Y5.o,⟨⟨_,_,q,rfl,Lx rn (by omega),m.o.len,Lx ri (by omega)⟩,fun x hx=>?_⟩,gQ (gQ (gQ (gQ t_.o (amL _)) (amL _)) (by omega)) (by omega)⟩
  have rk:=jr (base':=w.heap.size+1+1+1) (m.o.ps.kids x hx) (fun b g=>amM (m.o.far x hx b g));have rk2:=kN (u:=.int .i64 0) (i:=0) (b:=w.heap.size+1+1) (kN (u:=.int .i64 0) (i:=0) (b:=w.heap.size+1) (kN (u:=.slice K q M) (i:=1) (b:=w.heap.size) (kN (u:=.slice L xs.length N) (i:=0) (b:=w.heap.size) rk (by omega)) (by omega)) (by omega)) (by omega);exact Lx rk2 (by omega)
end
end
section
open Go.RowKit Mist
theorem vD (b o n:Nat):(⟨b,o,none⟩:Addr).add n=⟨b,o+n,none⟩:=by
 unfold Addr.add;split
 ·rename_i h;rw [h];rfl
 ·rfl
theorem dO (n lo hi:Int)(r:Bool)(c:Mist.within n lo hi=r)(w:World):Calls Tryz.prog 112 #[.int .i64 n,.int .i64 lo,.int .i64 hi] w fun e g=>e=.returned (.bool r)∧w=g:=by
 have b:=O c;clear c;by_cases h1:lo≤n
 ·have d:decide (lo≤n)=true:=amW h1;by_cases h2:n≤hi
  ·have f:decide (n≤hi)=true:=amW h2;have a:=O (show r=true by rw [← b.o];simp [Mist.within,h1,h2]);go_in
   go_wp2;go_ret;exact⟨bM a.o.symm,rfl⟩
  ·have f:decide (n≤hi)=false:=amX h2;have a:=O (show r=false by rw [← b.o];simp [Mist.within,h2]);go_in
   go_wp2;go_ret;exact⟨bM a.o.symm,rfl⟩
 ·have d:decide (lo≤n)=false:=amX h1;have a:=O (show r=false by rw [← b.o];simp [Mist.within,h1]);go_in
  go_wp2;go_ret;exact⟨bM a.o.symm,rfl⟩
theorem aek (k:Nat)(r:Bool)(c:kg k=r)(w:World):Calls Tryz.prog 146 #[.int .u8 k] w fun e g=>e=.returned (.bool r)∧w=g:=by
 have b:=O c;clear c;by_cases h1:30≤k
 ·have d:decide ((30:Int)≤(k:Int))=true:=amW (by omega);by_cases h2:k≤33
  ·have f:decide ((k:Int)≤(33:Int))=true:=amW (by omega);have a:=O (show r=true by rw [← b.o];simp [kg,h1,h2]);go_in
   go_wp2;go_ret;exact⟨bM a.o.symm,rfl⟩
  ·have f:decide ((k:Int)≤(33:Int))=false:=amX (by omega);have a:=O (show r=false by rw [← b.o];simp [kg,h2]);go_in
   go_wp2;go_ret;exact⟨bM a.o.symm,rfl⟩
 ·have d:decide ((30:Int)≤(k:Int))=false:=amX (by omega);have a:=O (show r=false by rw [← b.o];simp [kg,h1]);go_in
  go_wp2;go_ret;exact⟨bM a.o.symm,rfl⟩
theorem aee (k:Nat)(r:Bool)(c:fM k=r)(w:World):Calls Tryz.prog 118 #[.int .u8 k] w fun e g=>e=.returned (.bool r)∧w=g:=by
 have b:=O c;clear c;by_cases h1:40≤k
 ·have d:decide ((40:Int)≤(k:Int))=true:=amW (by omega);by_cases h2:k≤46
  ·have f:decide ((k:Int)≤(46:Int))=true:=amW (by omega);have a:=O (show r=true by rw [← b.o];simp [fM,h1,h2]);go_in
   go_wp2;go_ret;exact⟨bM a.o.symm,rfl⟩
  ·have f:decide ((k:Int)≤(46:Int))=false:=amX (by omega);have a:=O (show r=false by rw [← b.o];simp [fM,h2]);go_in
   go_wp2;go_ret;exact⟨bM a.o.symm,rfl⟩
 ·have d:decide ((40:Int)≤(k:Int))=false:=amX (by omega);have a:=O (show r=false by rw [← b.o];simp [fM,h1]);go_in
  go_wp2;go_ret;exact⟨bM a.o.symm,rfl⟩
theorem II (k:Nat)(r:Bool)(c:iT k=r)(w:World):Calls Tryz.prog 142 #[.int .u8 k] w fun e h=>e=.returned (.bool r)∧w=h:=by
 have b:=O c;clear c;by_cases h1:1≤k
 ·have d:decide ((1:Int)≤(k:Int))=true:=amW (by omega);by_cases h2:k≤26
  ·have f:decide ((k:Int)≤(26:Int))=true:=amW (by omega);by_cases h3:k=25
   ·have g:((k:Int) != 25)=false:=by rw [h3];rfl
    have a:=O (show r=false by rw [← b.o];rw [h3];decide);go_in
    go_wp2;go_ret;exact⟨bM a.o.symm,rfl⟩
   ·have g:((k:Int) != 25)=true:=by rw [bne_iff_ne];omega
    have a:=O (show r=true by rw [← b.o];simp [iT,h1,h2,h3]);go_in
    go_wp2;go_ret;exact⟨bM a.o.symm,rfl⟩
  ·have f:decide ((k:Int)≤(26:Int))=false:=amX (by omega);have a:=O (show r=false by rw [← b.o];simp [iT,h2]);go_in
   go_wp2;go_ret;exact⟨bM a.o.symm,rfl⟩
 ·have d:decide ((1:Int)≤(k:Int))=false:=amX (by omega);have a:=O (show r=false by rw [← b.o];simp [iT,h1]);go_in
  go_wp2;go_ret;exact⟨bM a.o.symm,rfl⟩
theorem acr (k:Nat)(r:Bool)(c:decide (k=34)=r)(w:World):Calls Tryz.prog 148 #[.int .u8 k] w fun e f=>e=.returned (.bool r)∧w=f:=by
 have b:=O c;clear c;by_cases h1:k=34
 ·have d:((k:Int) == 34)=true:=by rw [h1];rfl
  have a:=O (show r=true by rw [← b.o];simp [h1]);go_in
  go_wp2;go_ret;exact⟨bM a.o.symm,rfl⟩
 ·have d:((k:Int) == 34)=false:=by rw [amH];omega
  have a:=O (show r=false by rw [← b.o];simp [h1]);go_in
  go_wp2;go_ret;exact⟨bM a.o.symm,rfl⟩
theorem ag2 (k:Nat)(r:Bool)(c:decide (k=25)=r)(w:World):Calls Tryz.prog 145 #[.int .u8 k] w fun e f=>e=.returned (.bool r)∧w=f:=by
 have b:=O c;clear c;by_cases h1:k=25
 ·have d:((k:Int) == 25)=true:=by rw [h1];rfl
  have a:=O (show r=true by rw [← b.o];simp [h1]);go_in
  go_wp2;go_ret;exact⟨bM a.o.symm,rfl⟩
 ·have d:((k:Int) == 25)=false:=by rw [amH];omega
  have a:=O (show r=false by rw [← b.o];simp [h1]);go_in
  go_wp2;go_ret;exact⟨bM a.o.symm,rfl⟩
theorem agO (k:Nat)(r:Bool)(c:decide (k=1)=r)(w:World):Calls Tryz.prog 147 #[.int .u8 k] w fun e f=>e=.returned (.bool r)∧w=f:=by
 have b:=O c;clear c;by_cases h1:k=1
 ·have d:((k:Int) == 1)=true:=by rw [h1];rfl
  have a:=O (show r=true by rw [← b.o];simp [h1]);go_in
  go_wp2;go_ret;exact⟨bM a.o.symm,rfl⟩
 ·have d:((k:Int) == 1)=false:=by rw [amH];omega
  have a:=O (show r=false by rw [← b.o];simp [h1]);go_in
  go_wp2;go_ret;exact⟨bM a.o.symm,rfl⟩
def LP:Pd→Nat
 | .expr=>142
 | .typ=>146
 | .param=>148
 | .put=>145
 | .num=>147
def J4 (p:Pd):Value:=.func (.func (LP p)) #[] #[]
theorem Pm (p:Pd)(k:Nat)(r:Bool)(a:p.is k=r)(w:World):Calls Tryz.prog (LP p) #[.int .u8 k] w fun e b=>e=.returned (.bool r)∧w=b:=by
 cases p with
 | expr=>exact II k r a w
 | typ=>exact aek k r a w
 | param=>exact acr k r a w
 | put=>exact ag2 k r a w
 | num=>exact agO k r a w
theorem Wt (k:Nat)(r:Bool)(d:Pd.expr.is k=r)(w:World)(a b:Value)(g:Nat)(T:TypeId)(h:bY w g T #[a,b,J4 .expr]):Calls Tryz.prog 152 #[.int .u8 k,.pointer (some ⟨g,0,none⟩)] w fun e f=>e=.returned (.bool (!r))∧w=f:=by
 have c2:=h.cell 2;have c:=O (Pm .expr k r d w);clear d;simp only [J4,LP] at c2 c
 go_in
 go_wp2_with (refine c.o.mono ?_;rintro e f ⟨rfl,rfl⟩)
 go_ret;exact⟨rfl,rfl⟩
theorem aat (k:Nat)(r:Bool)(d:Pd.typ.is k=r)(w:World)(a b:Value)(g:Nat)(T:TypeId)(h:bY w g T #[a,b,J4 .typ]):Calls Tryz.prog 152 #[.int .u8 k,.pointer (some ⟨g,0,none⟩)] w fun e f=>e=.returned (.bool (!r))∧w=f:=by
 have c2:=h.cell 2;have c:=O (Pm .typ k r d w);clear d;simp only [J4,LP] at c2 c
 go_in
 go_wp2_with (refine c.o.mono ?_;rintro e f ⟨rfl,rfl⟩)
 go_ret;exact⟨rfl,rfl⟩
theorem Rx (k:Nat)(r:Bool)(d:Pd.param.is k=r)(w:World)(a b:Value)(g:Nat)(T:TypeId)(h:bY w g T #[a,b,J4 .param]):Calls Tryz.prog 152 #[.int .u8 k,.pointer (some ⟨g,0,none⟩)] w fun e f=>e=.returned (.bool (!r))∧w=f:=by
 have c2:=h.cell 2;have c:=O (Pm .param k r d w);clear d;simp only [J4,LP] at c2 c
 go_in
 go_wp2_with (refine c.o.mono ?_;rintro e f ⟨rfl,rfl⟩)
 go_ret;exact⟨rfl,rfl⟩
theorem aas (k:Nat)(r:Bool)(d:Pd.put.is k=r)(w:World)(a b:Value)(g:Nat)(T:TypeId)(h:bY w g T #[a,b,J4 .put]):Calls Tryz.prog 152 #[.int .u8 k,.pointer (some ⟨g,0,none⟩)] w fun e f=>e=.returned (.bool (!r))∧w=f:=by
 have c2:=h.cell 2;have c:=O (Pm .put k r d w);clear d;simp only [J4,LP] at c2 c
 go_in
 go_wp2_with (refine c.o.mono ?_;rintro e f ⟨rfl,rfl⟩)
 go_ret;exact⟨rfl,rfl⟩
theorem aar (k:Nat)(r:Bool)(d:Pd.num.is k=r)(w:World)(a b:Value)(g:Nat)(T:TypeId)(h:bY w g T #[a,b,J4 .num]):Calls Tryz.prog 152 #[.int .u8 k,.pointer (some ⟨g,0,none⟩)] w fun e f=>e=.returned (.bool (!r))∧w=f:=by
 have c2:=h.cell 2;have c:=O (Pm .num k r d w);clear d;simp only [J4,LP] at c2 c
 go_in
 go_wp2_with (refine c.o.mono ?_;rintro e f ⟨rfl,rfl⟩)
 go_ret;exact⟨rfl,rfl⟩
structure IntsIn (w:World) (A:Option Addr) (ks:List Int):Prop where
 ex:0 < ks.length→∃ b o,A=some ⟨b,o,none⟩∧b < w.heap.size∧∀ (j:Nat) k,ks[j]? = some k→w.cell? ⟨b,o+j,none⟩=some (.int .i64 k)
theorem IntsIn.below {w d:World}{A:Option Addr}{ks:List Int}(h:IntsIn w A ks)(a:Below w.heap.size w d):IntsIn d A ks :=
 ⟨fun h0=>by
  obtain⟨b,o,e,c,f⟩:=h.ex h0;exact⟨b,o,e,amY c a.size,fun j k g=>(a.cell (by exact c)).trans (f j k g)⟩⟩
structure sN (w:World) (b o:Nat) (xs:List NV):Prop where
 kids:C_ w b o xs
 c0:∀ (i:Nat) x,xs[i]? = some x→w.cell? ⟨b,o+i * 5,none⟩=some (.int .u8 x.1.kind)
 c1:∀ (i:Nat) x,xs[i]? = some x→w.cell? ⟨b,o+i * 5+1,none⟩=some (.string (aG x.1.text))
 c2:∀ (i:Nat) x,xs[i]? = some x→w.cell? ⟨b,o+i * 5+2,none⟩=some (.int .i64 x.1.n)
 c4:∀ (i:Nat) x,xs[i]? = some x→w.cell? ⟨b,o+i * 5+4,none⟩=some (.int .i64 x.1.at_)
theorem sN.lt {w:World}{b o:Nat}{xs:List NV}(h:sN w b o xs):b < w.heap.size:=h.kids.lt
theorem sN.c3 {w:World}{b o:Nat}{xs:List NV}(h:sN w b o xs)(i:Nat)(x:NV)(a:xs[i]? = some x):w.cell? ⟨b,o+i * 5+3,none⟩=some x.2:=h.kids.kv i x a
theorem sN.below {w d:World}{b o:Nat}{xs:List NV}(h:sN w b o xs)(c:Below w.heap.size w d):sN d b o xs :=
 ⟨h.kids.below c,fun i x a=>(c.cell (by exact h.lt)).trans (h.c0 i x a),fun i x a=>(c.cell (by exact h.lt)).trans (h.c1 i x a),fun i x a=>(c.cell (by exact h.lt)).trans (h.c2 i x a),fun i x a=>(c.cell (by exact h.lt)).trans (h.c4 i x a)⟩
theorem sN.kid {w:World}{b o:Nat}{xs:List NV}(h:sN w b o xs){i:Nat}{x:NV}(a:xs[i]? = some x):∃ A c,x.2=.slice A x.1.kids.length c∧x.1.kids.length≤1000000∧IntsIn w A x.1.kids:=by
 obtain⟨A,c,h1,h2,h3⟩:=h.kids.kids x (amO a);exact⟨A,c,h1,h2,⟨h3⟩⟩
structure uZ (w:World) (A B:Option Addr) (xs:List NV) (its:List Int):Prop where
 nodes:0 < xs.length→∃ b o,A=some ⟨b,o,none⟩∧sN w b o xs
 items:IntsIn w B its
theorem uZ.below {w d:World}{A B:Option Addr}{xs:List NV}{a:List Int}(h:uZ w A B xs a)(c:Below w.heap.size w d):uZ d A B xs a :=
 ⟨fun h0=>by obtain⟨b,o,e,f⟩:=h.nodes h0;exact⟨b,o,e,f.below c⟩,h.items.below c⟩
structure NdR (n:Nd):Prop where
 kind:n.kind < 256
 text:n.text.length≤100000000
 num:pY≤n.n∧n.n≤kV
 place:pY≤n.at_∧n.at_≤kV
 kids:∀ c ∈ n.kids,pY≤c∧c≤kV
def FL (ns:List Nd):Prop:=∀ n ∈ ns,NdR n
theorem AQ {xs:List NV}{i:Nat}{x:NV}(h:xs[i]? = some x):(aH xs)[i]? = some x.1:=by unfold aH;rw [List.getElem?_map,h];rfl
theorem bD {xs:List NV}{i:Nat}{x:NV}(a:List Int)(h:xs[i]? = some x):nd ⟨aH xs,a⟩ i=x.1:=mU (t:=⟨aH xs,a⟩) (AQ h)
theorem nE {xs:List NV}{i:Nat}(h:i < xs.length):∃ x,xs[i]? = some x:=⟨_,amF h⟩
theorem JM:∀ (xs:List NV) (i k:Nat) (x:NV),xs[i]? = some x→k < 5→(jC xs)[i * 5+k]? = (iE x)[k]?
 | [],_,_,_,h,_=>by simp at h
 | y :: r,0,k,x,h,hk=>by
  have:y=x:=by simpa using h
  subst this;rw [show jC (y :: r)=iE y ++ jC r from rfl,List.getElem?_append_left (by simp [iE];omega)];simp
 | y :: r,i+1,k,x,h,hk=>by
  rw [show jC (y :: r)=iE y ++ jC r from rfl,List.getElem?_append_right (by simp [iE];omega)];have e:(i+1) * 5+k - (iE y).length=i * 5+k:=by simp [iE];omega
  rw [e];exact JM r i k x (by simpa using h) hk
theorem BS {w:World}{base:Nat}{A:Option Addr}{n c:Nat}{ks:List Int}(h:w.ownsRow base 3 1 (.slice A n c) n (intCells ks))(e:n=ks.length):IntsIn w A ks:=by
 subst e
 refine⟨fun h0=>?_⟩
 obtain⟨g,cap,hv,_,a⟩:=h.form h0;have b:A=some ⟨g,0,none⟩:=by injection hv
 subst b
 refine⟨g,0,rfl,a,fun j k d=>?_⟩
 have:=h.cells (g:=g) rfl j (.int .i64 k) (by simp [intCells,d])
 rw [vD] at this
 exact this
theorem DI {w:World}{base:Nat}{A:Option Addr}{c:Nat}{xs:List NV}(h:w.ownsRow base 56 5 (.slice A xs.length c) xs.length (jC xs))(h0:0 < xs.length)(v:∀ x ∈ xs,∃ m,w.ownsRow m 3 1 x.2 x.1.kids.length (intCells x.1.kids))(e:∀ x ∈ xs,x.1.kids.length≤1000000):∃ g,A=some ⟨g,0,none⟩∧sN w g 0 xs:=by
 obtain⟨g,cap,hv,_,f⟩:=h.form h0;have t:A=some ⟨g,0,none⟩:=by injection hv
 subst t
 have b:∀ (i k:Nat) x u,xs[i]? = some x→k < 5→(iE x)[k]? = some u→w.cell? ⟨g,0+(i * 5+k),none⟩=some u:=by
  intro i k x u a d y
  have:=h.cells (g:=g) rfl (i * 5+k) u (by rw [JM xs i k x a d];exact y)
  rw [vD] at this
  exact this
 refine⟨g,rfl,⟨f,fun i x a=>?_,fun x a=>?_⟩,fun i x a=>?_,fun i x a=>?_,fun i x a=>?_,fun i x a=>?_⟩
 ·exact b i 3 x _ a (by omega) rfl
 ·obtain⟨m,j⟩:=v x a;obtain⟨q,r,n⟩:=dA j;rw [n] at j
  exact⟨q,r,n,e x a,(BS j rfl).ex⟩
 ·exact b i 0 x _ a (by omega) rfl
 ·exact b i 1 x _ a (by omega) rfl
 ·exact b i 2 x _ a (by omega) rfl
 ·exact b i 4 x _ a (by omega) rfl
theorem su.tAt {g:Nat}{w:World}{v:Value}{xs:List NV}{a:List Int}(h:su g w v xs a)(b:∀ x ∈ xs,x.1.kids.length≤1000000):∃ A B c d,v=.agg #[.slice A xs.length c,.slice B a.length d]∧uZ w A B xs a:=by
 obtain⟨⟨nv,iv,q,rfl,h1,rfl,h2⟩,i⟩:=h;obtain⟨A,c,rfl⟩:=dA h1;obtain⟨B,d,rfl⟩:=dA h2
 refine⟨A,B,c,d,rfl,fun h0=>?_,BS h2 rfl⟩
 obtain⟨f,e,j⟩:=DI h1 h0 (fun x k=>⟨_,i x k⟩) b;exact⟨f,0,e,j⟩
end
