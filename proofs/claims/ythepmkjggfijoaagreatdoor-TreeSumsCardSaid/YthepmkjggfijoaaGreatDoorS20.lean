/-
  A part of the proof.
-/
import Derived.Test.YthepmkjggfijoaaGreatDoorSA
import Derived.Test.YthepmkjggfijoaaGreatDoorS04
import Derived.Test.YthepmkjggfijoaaGreatDoorS07
import Derived.Test.YthepmkjggfijoaaGreatDoorS19
set_option linter.all false
set_option maxRecDepth 100000
set_option maxHeartbeats 4000000
open Go.Lib (hid)
namespace Go.Proofs.YthepmkjggfijoaaGreatDoor
open Go.RowKit Mist
attribute [local go_sem] aj aH aS aB ak
theorem jZ {w:World}{base e s n b i:Nat}{v u:Value}{ys:List Value}(h:w.ownsRow base e s v n ys)(hb:b < base):(w.setCell ⟨b,i,none⟩ u).ownsRow base e s v n ys :=
 ownsRow_setCell_other h (fun e2=>by have:=(h.lt b e2).1;omega) u
theorem sS {w:World}{base base' e s n:Nat}{v:Value}{ys:List Value}(h:w.ownsRow base e s v n ys)(hb:base'≤base):w.ownsRow base' e s v n ys:=kI h (fun k hk=>by have:=(h.lt k hk).1;omega)
structure uF (g:Nat) (w:World) (v:Value) (xs:List NV) (its:List Int):Prop where
 ex:∃ nv iv q,v=.agg #[nv,iv]∧w.ownsRow g 50 5 nv xs.length (iO xs)∧its.length=q∧w.ownsRow (g+1) 3 1 iv q (intCells its)
 kids:∀ x ∈ xs,w.ownsRow (g+1) 3 1 x.2 x.1.kids.length (intCells x.1.kids)
def Vd (l:List Tok)(en:Int)(w:World)(r:j6)(e:Ending)(w':World):Prop :=
 match r with
 | .ok its _ ns=>∃ v xs,e=.returned (.tuple #[v,.int .i64 0,.int .i64 0])∧aA xs=ns∧uF w.heap.size w' v xs its∧Below w.heap.size w w'
 | .bad k=>e=.returned (.tuple #[.agg #[.slice none 0 0,.slice none 0 0],.int .i64 (pl l en k),.int .i64 4])∧Below w.heap.size w w'
theorem UL {w w':World}{tv:Value}{l:List Tok}{g:Nat}(h:nC w tv l)(hb:Below w.heap.size w w')(hg:w.heap.size≤g):EA w' g tv l:=by
 obtain⟨A,c,rfl,hc,hr⟩:=h;exact⟨A,c,rfl,hc,(hr.below hb).more hg⟩
section
variable {tv:Value} {l:List Tok} {en:Int} (hF:PF l)
include hF
theorem pr_new {w w1:World}(hT:nC w tv l)(hE:Env w)(hb:Below w.heap.size w w1):PR w1.heap.size tv l en (.slice none 0 0) (w1.alloc (.cells #[tv,.int .i64 en,.int .i64 0,.slice none 0 0,.slice none 0 0] 107)) 0 [] (.slice none 0 0) [] 0:=by
 have h2:Below w.heap.size w (w1.alloc (.cells #[tv,.int .i64 en,.int .i64 0,.slice none 0 0,.slice none 0 0] 107)):=ah hb hb.size;obtain⟨B,hB,hE⟩:=hE
 refine⟨⟨aC.new w1 _ _,World.ownsRow_nil _ _ _ _,(fun x hx=>nomatch hx),UL hT h2 hb.size,?_⟩,rfl,World.ownsRow_nil _ _ _ _,(fun x hx=>nomatch hx),(fun x hx=>nomatch hx)⟩
 intro w'' h'';exact hE w'' ((h2.mono hB).trans (h''.mono (Nat.le_trans hB hb.size)))
theorem KL (n f:Nat)(w:World)(r:j6)(hT:nC w tv l)(hE:Env w)(hr:prog l en n f 0 [] []=some r) :
  Calls Tryz.prog 51 #[tv,.int .i64 en] w (Vd l en w r):=by
 have hmf:∀ (fn:Fn) (first cap:Array Value) (w:World),(Instr.makeFunc fn first cap).run Tryz.prog w=.ok (.func fn first cap) w:=fun _ _ _ _=>rfl
 obtain⟨A,c,rfl,hlc,hrd⟩:=hT;have HT:=hid (show nC w (.slice A l.length c) l from ⟨A,c,rfl,hlc,hrd⟩);clear hrd hlc;have HE:=hid hE;clear hE;have HR:=hid hr;clear hr;go_enter_defers Tryz.func51,Tryz.ntmps51
 have hs1:(w.alloc (.cells #[.slice none 0 0,.slice none 0 0] 26)).heap.size=w.heap.size+1:=by simp
 have hs2:((w.alloc (.cells #[.slice none 0 0,.slice none 0 0] 26)).alloc (.cells #[.int .i64 0] 3)).heap.size=w.heap.size+1+1:=by simp
 have hs3:(((w.alloc (.cells #[.slice none 0 0,.slice none 0 0] 26)).alloc (.cells #[.int .i64 0] 3)).alloc (.cells #[.int .i64 0] 27)).heap.size=w.heap.size+1+1+1:=by simp
 have hpr:=pr_new hF (en:=en) HT.out HE.out (w1:=(((w.alloc (.cells #[.slice none 0 0,.slice none 0 0] 26)).alloc (.cells #[.int .i64 0] 3)).alloc (.cells #[.int .i64 0] 27))) (ah (ah (ah (Below.refl _ _) (aaJ _)) (by simp)) (by simp;omega));rw [hs3] at hpr
 have hbt:=(((aC.new w 26 #[.slice none 0 0,.slice none 0 0]).alloc (.cells #[.int .i64 0] 3)).alloc (.cells #[.int .i64 0] 27)).alloc (.cells #[.slice A l.length c,.int .i64 en,.int .i64 0,.slice none 0 0,.slice none 0 0] 107);have hba:=((aC.new (w.alloc (.cells #[.slice none 0 0,.slice none 0 0] 26)) 3 #[.int .i64 0]).alloc (.cells #[.int .i64 0] 27)).alloc (.cells #[.slice A l.length c,.int .i64 en,.int .i64 0,.slice none 0 0,.slice none 0 0] 107);rw [hs1] at hba
 have hbe:=(aC.new ((w.alloc (.cells #[.slice none 0 0,.slice none 0 0] 26)).alloc (.cells #[.int .i64 0] 3)) 27 #[.int .i64 0]).alloc (.cells #[.slice A l.length c,.int .i64 en,.int .i64 0,.slice none 0 0,.slice none 0 0] 107);rw [hs2] at hbe
 have xA:=hid (ah (ah (ah (ah (Below.refl w.heap.size w) (aaJ _) (o:=(.cells #[.slice none 0 0,.slice none 0 0] 26))) (by simp) (o:=(.cells #[.int .i64 0] 3))) (by simp;omega) (o:=(.cells #[.int .i64 0] 27))) (by simp;omega) (o:=(.cells #[.slice A l.length c,.int .i64 en,.int .i64 0,.slice none 0 0,.slice none 0 0] 107)));have YD:=hid hpr;clear hpr;have HBT:=hid hbt;clear hbt;have HBA:=hid hba;clear hba;have TB:=hid hbe;clear hbe;clear hs1 hs2 hs3;go_wp2_with fail;refine (O5 hF n f _ 0 0 [] _ _ [] r YD.out (aaL _) (aaJ _) (aaJ _) (fun i nd h=>by simp [aA] at h) HR.out).mono ?_;intro e w5 hp
 cases r with
 | bad kb =>
  obtain⟨rfl,hb⟩:=hp;have ht5:=HBT.out.below hb (by omega);have RO:=HBA.out.below hb (by omega);have zw:=TB.out.below hb (by omega);have cu:=hid hb;clear hb;unfold aI;go_wp2_with fail;refine leaves_cons (f:=92) (args:=#[.pointer (some ⟨w.heap.size,0,none⟩),.pointer (some ⟨w.heap.size+1,0,none⟩),.pointer (some ⟨w.heap.size+1+1,0,none⟩)]) (by simp) (by simp [go_sem]) ?_;refine (NP w.heap.size (w.heap.size+1) (w.heap.size+1+1) _ _ _ _ (pl l en kb) [] _ ht5 RO zw (by omega) (by omega)).mono ?_;rintro e u' w6 ⟨rfl,rfl,ht,ha,he,hb6⟩;have k0:=ht.cell 0;have k1:=ht.cell 1;have k2:=ha.cell 0;have k3:=he.cell 0;have HFIN:=hid (xA.out.trans ((cu.out.mono (by omega)).trans hb6));clear ht ha he hb6 ht5 RO zw;simp [Leaves,settle,results,Tryz.f51,go_sem,k0,k1,k2,k3]
  exact⟨rfl,HFIN.out⟩
 | ok its k1 aJ =>
  obtain⟨⟨v,rfl⟩,⟨xs,nv,iv,q,hpr,hns⟩,hb⟩:=hp;obtain⟨An,cn,rfl⟩:=dh hpr.ps.own;obtain⟨Ai,ci,rfl⟩:=dh hpr.row;have ht5:=HBT.out.below hb (by omega);have RO:=HBA.out.below hb (by omega);have zw:=TB.out.below hb (by omega);have cu:=hid hb;clear hb;have iU:=hid hpr;clear hpr;have rC:=hid hns;clear hns;have g3:=iU.out.ps.blk.cell 3;have g4:=iU.out.ps.blk.cell 4;have t0:=ht5.cell 0;have t1:=ht5.cell 1;have a0:=RO.cell 0;have e0:=zw.cell 0;have ft0:=ht5.frozen 0;have ft1:=ht5.frozen 1;have fa0:=RO.frozen 0;have fe0:=zw.frozen 0;go_wp2_with fail;refine leaves_cons (f:=92) (args:=#[.pointer (some ⟨w.heap.size,0,none⟩),.pointer (some ⟨w.heap.size+1,0,none⟩),.pointer (some ⟨w.heap.size+1+1,0,none⟩)]) (by simp) (by simp [go_sem]) ?_;refine (Ro _ _ _ _).mono ?_;rintro e u' w6 ⟨rfl,rfl,rfl⟩;simp [Leaves,settle,results,Tryz.f51,go_sem,t0,t1,a0,e0]
  have uN:=hid (xA.out.trans (cu.out.mono (by omega)));have rn:=jZ (u:=.int .i64 0) (i:=0) (b:=w.heap.size+1+1) (jZ (u:=.int .i64 0) (i:=0) (b:=w.heap.size+1) (jZ (u:=.slice Ai q ci) (i:=1) (b:=w.heap.size) (jZ (u:=.slice An xs.length cn) (i:=0) (b:=w.heap.size) iU.out.ps.own (by omega)) (by omega)) (by omega)) (by omega);have ri:=jZ (u:=.int .i64 0) (i:=0) (b:=w.heap.size+1+1) (jZ (u:=.int .i64 0) (i:=0) (b:=w.heap.size+1) (jZ (u:=.slice Ai q ci) (i:=1) (b:=w.heap.size) (jZ (u:=.slice An xs.length cn) (i:=0) (b:=w.heap.size) iU.out.row (by omega)) (by omega)) (by omega)) (by omega)
  refine⟨_,xs,rfl,rC.out,⟨⟨_,_,q,rfl,sS rn (by omega),iU.out.len,sS ri (by omega)⟩,fun x hx=>?_⟩,dx (dx (dx (dx uN.out (aaJ _)) (aaJ _)) (by omega)) (by omega)⟩
  have rk:=kI (base':=w.heap.size+1+1+1) (iU.out.ps.kids x hx) (fun b hb=>aaK (iU.out.far x hx b hb));have rk2:=jZ (u:=.int .i64 0) (i:=0) (b:=w.heap.size+1+1) (jZ (u:=.int .i64 0) (i:=0) (b:=w.heap.size+1) (jZ (u:=.slice Ai q ci) (i:=1) (b:=w.heap.size) (jZ (u:=.slice An xs.length cn) (i:=0) (b:=w.heap.size) rk (by omega)) (by omega)) (by omega)) (by omega);exact sS rk2 (by omega)
end
end Go.Proofs.YthepmkjggfijoaaGreatDoor
namespace Go.Proofs.YthepmkjggfijoaaGreatDoor
open Go.RowKit Mist
theorem sj (b o n:Nat):(⟨b,o,none⟩:Addr).add n=⟨b,o+n,none⟩:=by
 unfold Addr.add;split
 ·rename_i h;rw [h];rfl
 ·rfl
theorem dU (n lo hi:Int)(r:Bool)(hr:Mist.within n lo hi=r)(w:World):Calls Tryz.prog 65 #[.int .i64 n,.int .i64 lo,.int .i64 hi] w fun e w'=>e=.returned (.bool r)∧w=w':=by
 have HR:=hid hr;clear hr;by_cases h1:lo≤n
 ·have a1:decide (lo≤n)=true:=aaU h1;by_cases h2:n≤hi
  ·have a2:decide (n≤hi)=true:=aaU h2;have HX:=hid (show r=true by rw [← HR.out];simp [Mist.within,h1,h2]);go_in
   go_wp2;go_ret;exact⟨bD HX.out.symm,rfl⟩
  ·have a2:decide (n≤hi)=false:=aaV h2;have HX:=hid (show r=false by rw [← HR.out];simp [Mist.within,h2]);go_in
   go_wp2;go_ret;exact⟨bD HX.out.symm,rfl⟩
 ·have a1:decide (lo≤n)=false:=aaV h1;have HX:=hid (show r=false by rw [← HR.out];simp [Mist.within,h1]);go_in
  go_wp2;go_ret;exact⟨bD HX.out.symm,rfl⟩
theorem kind_of (k:Nat)(r:Bool)(hr:iH k=r)(w:World):Calls Tryz.prog 161 #[.int .u8 k] w fun e w'=>e=.returned (.bool r)∧w=w':=by
 have HR:=hid hr;clear hr;by_cases h1:30≤k
 ·have a1:decide ((30:Int)≤(k:Int))=true:=aaU (by omega);by_cases h2:k≤33
  ·have a2:decide ((k:Int)≤(33:Int))=true:=aaU (by omega);have HX:=hid (show r=true by rw [← HR.out];simp [iH,h1,h2]);go_in
   go_wp2;go_ret;exact⟨bD HX.out.symm,rfl⟩
  ·have a2:decide ((k:Int)≤(33:Int))=false:=aaV (by omega);have HX:=hid (show r=false by rw [← HR.out];simp [iH,h2]);go_in
   go_wp2;go_ret;exact⟨bD HX.out.symm,rfl⟩
 ·have a1:decide ((30:Int)≤(k:Int))=false:=aaV (by omega);have HX:=hid (show r=false by rw [← HR.out];simp [iH,h1]);go_in
  go_wp2;go_ret;exact⟨bD HX.out.symm,rfl⟩
theorem Cn (k:Nat)(r:Bool)(hr:eP k=r)(w:World):Calls Tryz.prog 107 #[.int .u8 k] w fun e w'=>e=.returned (.bool r)∧w=w':=by
 have HR:=hid hr;clear hr;by_cases h1:40≤k
 ·have a1:decide ((40:Int)≤(k:Int))=true:=aaU (by omega);by_cases h2:k≤46
  ·have a2:decide ((k:Int)≤(46:Int))=true:=aaU (by omega);have HX:=hid (show r=true by rw [← HR.out];simp [eP,h1,h2]);go_in
   go_wp2;go_ret;exact⟨bD HX.out.symm,rfl⟩
  ·have a2:decide ((k:Int)≤(46:Int))=false:=aaV (by omega);have HX:=hid (show r=false by rw [← HR.out];simp [eP,h2]);go_in
   go_wp2;go_ret;exact⟨bD HX.out.symm,rfl⟩
 ·have a1:decide ((40:Int)≤(k:Int))=false:=aaV (by omega);have HX:=hid (show r=false by rw [← HR.out];simp [eP,h1]);go_in
  go_wp2;go_ret;exact⟨bD HX.out.symm,rfl⟩
theorem Jw (k:Nat)(r:Bool)(hr:lq k=r)(w:World):Calls Tryz.prog 69 #[.int .u8 k] w fun e w'=>e=.returned (.bool r)∧w=w':=by
 have HR:=hid hr;clear hr;by_cases h1:1≤k
 ·have a1:decide ((1:Int)≤(k:Int))=true:=aaU (by omega);by_cases h2:k≤26
  ·have a2:decide ((k:Int)≤(26:Int))=true:=aaU (by omega);by_cases h3:k=25
   ·have a3:((k:Int) != 25)=false:=by rw [h3];rfl
    have HX:=hid (show r=false by rw [← HR.out];rw [h3];decide);go_in
    go_wp2;go_ret;exact⟨bD HX.out.symm,rfl⟩
   ·have a3:((k:Int) != 25)=true:=by rw [bne_iff_ne];omega
    have HX:=hid (show r=true by rw [← HR.out];simp [lq,h1,h2,h3]);go_in
    go_wp2;go_ret;exact⟨bD HX.out.symm,rfl⟩
  ·have a2:decide ((k:Int)≤(26:Int))=false:=aaV (by omega);have HX:=hid (show r=false by rw [← HR.out];simp [lq,h2]);go_in
   go_wp2;go_ret;exact⟨bD HX.out.symm,rfl⟩
 ·have a1:decide ((1:Int)≤(k:Int))=false:=aaV (by omega);have HX:=hid (show r=false by rw [← HR.out];simp [lq,h1]);go_in
  go_wp2;go_ret;exact⟨bD HX.out.symm,rfl⟩
theorem param_of (k:Nat)(r:Bool)(hr:decide (k=34)=r)(w:World):Calls Tryz.prog 163 #[.int .u8 k] w fun e w'=>e=.returned (.bool r)∧w=w':=by
 have HR:=hid hr;clear hr;by_cases h1:k=34
 ·have a1:((k:Int) == 34)=true:=by rw [h1];rfl
  have HX:=hid (show r=true by rw [← HR.out];simp [h1]);go_in
  go_wp2;go_ret;exact⟨bD HX.out.symm,rfl⟩
 ·have a1:((k:Int) == 34)=false:=by rw [aaF];omega
  have HX:=hid (show r=false by rw [← HR.out];simp [h1]);go_in
  go_wp2;go_ret;exact⟨bD HX.out.symm,rfl⟩
theorem put_of (k:Nat)(r:Bool)(hr:decide (k=25)=r)(w:World):Calls Tryz.prog 160 #[.int .u8 k] w fun e w'=>e=.returned (.bool r)∧w=w':=by
 have HR:=hid hr;clear hr;by_cases h1:k=25
 ·have a1:((k:Int) == 25)=true:=by rw [h1];rfl
  have HX:=hid (show r=true by rw [← HR.out];simp [h1]);go_in
  go_wp2;go_ret;exact⟨bD HX.out.symm,rfl⟩
 ·have a1:((k:Int) == 25)=false:=by rw [aaF];omega
  have HX:=hid (show r=false by rw [← HR.out];simp [h1]);go_in
  go_wp2;go_ret;exact⟨bD HX.out.symm,rfl⟩
theorem num_of (k:Nat)(r:Bool)(hr:decide (k=1)=r)(w:World):Calls Tryz.prog 162 #[.int .u8 k] w fun e w'=>e=.returned (.bool r)∧w=w':=by
 have HR:=hid hr;clear hr;by_cases h1:k=1
 ·have a1:((k:Int) == 1)=true:=by rw [h1];rfl
  have HX:=hid (show r=true by rw [← HR.out];simp [h1]);go_in
  go_wp2;go_ret;exact⟨bD HX.out.symm,rfl⟩
 ·have a1:((k:Int) == 1)=false:=by rw [aaF];omega
  have HX:=hid (show r=false by rw [← HR.out];simp [h1]);go_in
  go_wp2;go_ret;exact⟨bD HX.out.symm,rfl⟩
def MQ:Pd→Nat
 | .expr=>69
 | .typ=>161
 | .param=>163
 | .put=>160
 | .num=>162
def KM (p:Pd):Value:=.func (.func (MQ p)) #[] #[]
theorem O1 (p:Pd)(k:Nat)(r:Bool)(hr:p.is k=r)(w:World):Calls Tryz.prog (MQ p) #[.int .u8 k] w fun e w'=>e=.returned (.bool r)∧w=w':=by
 cases p with
 | expr=>exact Jw k r hr w
 | typ=>exact kind_of k r hr w
 | param=>exact param_of k r hr w
 | put=>exact put_of k r hr w
 | num=>exact num_of k r hr w
theorem Vi (k:Nat)(r:Bool)(hr:Pd.expr.is k=r)(w:World)(least most:Value)(g:Nat)(T:TypeId)(hg:aC w g T #[least,most,KM .expr]):Calls Tryz.prog 167 #[.int .u8 k,.pointer (some ⟨g,0,none⟩)] w fun e w'=>e=.returned (.bool (!r))∧w=w':=by
 have c2:=hg.cell 2;have HR:=hid (O1 .expr k r hr w);clear hr;simp only [KM,MQ] at c2 HR
 go_in
 go_wp2_with (refine HR.out.mono ?_;rintro e w' ⟨rfl,rfl⟩)
 go_ret;exact⟨rfl,rfl⟩
theorem Y_ (k:Nat)(r:Bool)(hr:Pd.typ.is k=r)(w:World)(least most:Value)(g:Nat)(T:TypeId)(hg:aC w g T #[least,most,KM .typ]):Calls Tryz.prog 167 #[.int .u8 k,.pointer (some ⟨g,0,none⟩)] w fun e w'=>e=.returned (.bool (!r))∧w=w':=by
 have c2:=hg.cell 2;have HR:=hid (O1 .typ k r hr w);clear hr;simp only [KM,MQ] at c2 HR
 go_in
 go_wp2_with (refine HR.out.mono ?_;rintro e w' ⟨rfl,rfl⟩)
 go_ret;exact⟨rfl,rfl⟩
theorem Rm (k:Nat)(r:Bool)(hr:Pd.param.is k=r)(w:World)(least most:Value)(g:Nat)(T:TypeId)(hg:aC w g T #[least,most,KM .param]):Calls Tryz.prog 167 #[.int .u8 k,.pointer (some ⟨g,0,none⟩)] w fun e w'=>e=.returned (.bool (!r))∧w=w':=by
 have c2:=hg.cell 2;have HR:=hid (O1 .param k r hr w);clear hr;simp only [KM,MQ] at c2 HR
 go_in
 go_wp2_with (refine HR.out.mono ?_;rintro e w' ⟨rfl,rfl⟩)
 go_ret;exact⟨rfl,rfl⟩
theorem Y9 (k:Nat)(r:Bool)(hr:Pd.put.is k=r)(w:World)(least most:Value)(g:Nat)(T:TypeId)(hg:aC w g T #[least,most,KM .put]):Calls Tryz.prog 167 #[.int .u8 k,.pointer (some ⟨g,0,none⟩)] w fun e w'=>e=.returned (.bool (!r))∧w=w':=by
 have c2:=hg.cell 2;have HR:=hid (O1 .put k r hr w);clear hr;simp only [KM,MQ] at c2 HR
 go_in
 go_wp2_with (refine HR.out.mono ?_;rintro e w' ⟨rfl,rfl⟩)
 go_ret;exact⟨rfl,rfl⟩
theorem Y8 (k:Nat)(r:Bool)(hr:Pd.num.is k=r)(w:World)(least most:Value)(g:Nat)(T:TypeId)(hg:aC w g T #[least,most,KM .num]):Calls Tryz.prog 167 #[.int .u8 k,.pointer (some ⟨g,0,none⟩)] w fun e w'=>e=.returned (.bool (!r))∧w=w':=by
 have c2:=hg.cell 2;have HR:=hid (O1 .num k r hr w);clear hr;simp only [KM,MQ] at c2 HR
 go_in
 go_wp2_with (refine HR.out.mono ?_;rintro e w' ⟨rfl,rfl⟩)
 go_ret;exact⟨rfl,rfl⟩
structure IntsIn (w:World) (A:Option Addr) (ks:List Int):Prop where
 ex:0 < ks.length→∃ b o,A=some ⟨b,o,none⟩∧b < w.heap.size∧∀ (j:Nat) k,ks[j]? = some k→w.cell? ⟨b,o+j,none⟩=some (.int .i64 k)
theorem IntsIn.below {w w':World}{A:Option Addr}{ks:List Int}(h:IntsIn w A ks)(hb:Below w.heap.size w w'):IntsIn w' A ks :=
 ⟨fun h0=>by
  obtain⟨b,o,e,hl,hc⟩:=h.ex h0;exact⟨b,o,e,aaW hl hb.size,fun j k hk=>(hb.cell (by exact hl)).trans (hc j k hk)⟩⟩
structure oZ (w:World) (b o:Nat) (xs:List NV):Prop where
 kids:DI w b o xs
 c0:∀ (i:Nat) x,xs[i]? = some x→w.cell? ⟨b,o+i * 5,none⟩=some (.int .u8 x.1.kind)
 c1:∀ (i:Nat) x,xs[i]? = some x→w.cell? ⟨b,o+i * 5+1,none⟩=some (.string (aM x.1.text))
 c2:∀ (i:Nat) x,xs[i]? = some x→w.cell? ⟨b,o+i * 5+2,none⟩=some (.int .i64 x.1.n)
 c4:∀ (i:Nat) x,xs[i]? = some x→w.cell? ⟨b,o+i * 5+4,none⟩=some (.int .i64 x.1.at_)
theorem oZ.lt {w:World}{b o:Nat}{xs:List NV}(h:oZ w b o xs):b < w.heap.size:=h.kids.lt
theorem oZ.c3 {w:World}{b o:Nat}{xs:List NV}(h:oZ w b o xs)(i:Nat)(x:NV)(hx:xs[i]? = some x):w.cell? ⟨b,o+i * 5+3,none⟩=some x.2:=h.kids.kv i x hx
theorem oZ.below {w w':World}{b o:Nat}{xs:List NV}(h:oZ w b o xs)(hb:Below w.heap.size w w'):oZ w' b o xs :=
 ⟨h.kids.below hb,fun i x hx=>(hb.cell (by exact h.lt)).trans (h.c0 i x hx),fun i x hx=>(hb.cell (by exact h.lt)).trans (h.c1 i x hx),fun i x hx=>(hb.cell (by exact h.lt)).trans (h.c2 i x hx),fun i x hx=>(hb.cell (by exact h.lt)).trans (h.c4 i x hx)⟩
theorem oZ.kid {w:World}{b o:Nat}{xs:List NV}(h:oZ w b o xs){i:Nat}{x:NV}(hx:xs[i]? = some x):∃ A c,x.2=.slice A x.1.kids.length c∧x.1.kids.length≤1000000∧IntsIn w A x.1.kids:=by
 obtain⟨A,c,h1,h2,h3⟩:=h.kids.kids x (aaM hx);exact⟨A,c,h1,h2,⟨h3⟩⟩
structure mq (w:World) (A B:Option Addr) (xs:List NV) (its:List Int):Prop where
 nodes:0 < xs.length→∃ b o,A=some ⟨b,o,none⟩∧oZ w b o xs
 items:IntsIn w B its
theorem mq.below {w w':World}{A B:Option Addr}{xs:List NV}{its:List Int}(h:mq w A B xs its)(hb:Below w.heap.size w w'):mq w' A B xs its :=
 ⟨fun h0=>by obtain⟨b,o,e,hn⟩:=h.nodes h0;exact⟨b,o,e,hn.below hb⟩,h.items.below hb⟩
structure NdR (n:Nd):Prop where
 kind:n.kind < 256
 text:n.text.length≤100000000
 num:jq≤n.n∧n.n≤gq
 place:jq≤n.at_∧n.at_≤gq
 kids:∀ c ∈ n.kids,jq≤c∧c≤gq
def xO (ns:List Nd):Prop:=∀ n ∈ ns,NdR n
theorem gP {xs:List NV}{i:Nat}{x:NV}(h:xs[i]? = some x):(aA xs)[i]? = some x.1:=by unfold aA;rw [List.getElem?_map,h];rfl
theorem l7 {xs:List NV}{i:Nat}{x:NV}(its:List Int)(h:xs[i]? = some x):nd ⟨aA xs,its⟩ i=x.1:=kH (t:=⟨aA xs,its⟩) (gP h)
theorem jD {xs:List NV}{i:Nat}(h:i < xs.length):∃ x,xs[i]? = some x:=⟨_,aaD h⟩
theorem Kz:∀ (xs:List NV) (i k:Nat) (x:NV),xs[i]? = some x→k < 5→(iO xs)[i * 5+k]? = (fC x)[k]?
 | [],_,_,_,h,_=>by simp at h
 | y :: r,0,k,x,h,hk=>by
  have:y=x:=by simpa using h
  subst this;rw [show iO (y :: r)=fC y ++ iO r from rfl,List.getElem?_append_left (by simp [fC];omega)];simp
 | y :: r,i+1,k,x,h,hk=>by
  rw [show iO (y :: r)=fC y ++ iO r from rfl,List.getElem?_append_right (by simp [fC];omega)];have e:(i+1) * 5+k - (fC y).length=i * 5+k:=by simp [fC];omega
  rw [e];exact Kz r i k x (by simpa using h) hk
theorem yI {w:World}{base:Nat}{A:Option Addr}{n c:Nat}{ks:List Int}(h:w.ownsRow base 3 1 (.slice A n c) n (intCells ks))(hn:n=ks.length):IntsIn w A ks:=by
 subst hn
 refine⟨fun h0=>?_⟩
 obtain⟨g,cap,hv,_,hlt⟩:=h.form h0;have hA:A=some ⟨g,0,none⟩:=by injection hv
 subst hA
 refine⟨g,0,rfl,hlt,fun j k hk=>?_⟩
 have:=h.cells (g:=g) rfl j (.int .i64 k) (by simp [intCells,hk])
 rw [sj] at this
 exact this
theorem Ee {w:World}{base:Nat}{A:Option Addr}{c:Nat}{xs:List NV}(h:w.ownsRow base 50 5 (.slice A xs.length c) xs.length (iO xs))(h0:0 < xs.length)(hk:∀ x ∈ xs,∃ b',w.ownsRow b' 3 1 x.2 x.1.kids.length (intCells x.1.kids))(hkl:∀ x ∈ xs,x.1.kids.length≤1000000):∃ g,A=some ⟨g,0,none⟩∧oZ w g 0 xs:=by
 obtain⟨g,cap,hv,_,hlt⟩:=h.form h0;have hA:A=some ⟨g,0,none⟩:=by injection hv
 subst hA
 have hc:∀ (i k:Nat) x u,xs[i]? = some x→k < 5→(fC x)[k]? = some u→w.cell? ⟨g,0+(i * 5+k),none⟩=some u:=by
  intro i k x u hx hk5 hu
  have:=h.cells (g:=g) rfl (i * 5+k) u (by rw [Kz xs i k x hx hk5];exact hu)
  rw [sj] at this
  exact this
 refine⟨g,rfl,⟨hlt,fun i x hx=>?_,fun x hx=>?_⟩,fun i x hx=>?_,fun i x hx=>?_,fun i x hx=>?_,fun i x hx=>?_⟩
 ·exact hc i 3 x _ hx (by omega) rfl
 ·obtain⟨b',ho⟩:=hk x hx;obtain⟨Ak,ck,he⟩:=dh ho;rw [he] at ho
  exact⟨Ak,ck,he,hkl x hx,(yI ho rfl).ex⟩
 ·exact hc i 0 x _ hx (by omega) rfl
 ·exact hc i 1 x _ hx (by omega) rfl
 ·exact hc i 2 x _ hx (by omega) rfl
 ·exact hc i 4 x _ hx (by omega) rfl
theorem uF.UH {g:Nat}{w:World}{v:Value}{xs:List NV}{its:List Int}(h:uF g w v xs its)(hkl:∀ x ∈ xs,x.1.kids.length≤1000000):∃ A B c d,v=.agg #[.slice A xs.length c,.slice B its.length d]∧mq w A B xs its:=by
 obtain⟨⟨nv,iv,q,rfl,h1,rfl,h2⟩,hk⟩:=h;obtain⟨A,c,rfl⟩:=dh h1;obtain⟨B,d,rfl⟩:=dh h2
 refine⟨A,B,c,d,rfl,fun h0=>?_,yI h2 rfl⟩
 obtain⟨gb,e,hn⟩:=Ee h1 h0 (fun x hx=>⟨_,hk x hx⟩) hkl;exact⟨gb,0,e,hn⟩
end Go.Proofs.YthepmkjggfijoaaGreatDoor
