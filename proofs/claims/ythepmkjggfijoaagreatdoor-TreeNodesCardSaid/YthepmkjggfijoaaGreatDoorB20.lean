/-
  PARTS of the proof: TK, N2, N1.
-/
import Derived.Test.YthepmkjggfijoaaGreatDoorB04
import Derived.Test.YthepmkjggfijoaaGreatDoorB07
import Derived.Test.YthepmkjggfijoaaGreatDoorB19
set_option linter.all false
set_option maxRecDepth 100000
set_option maxHeartbeats 4000000
open Go.Lib (hid)
namespace Go.Proofs.YthepmkjggfijoaaGreatDoor
open Go.RowKit Mist
attribute [local go_sem] ofL_extract ofL_size ofL_get ofL_bytes ofL_append
theorem own_set {w:World} {base e s n b i:Nat} {v u:Value} {ys:List Value} (h:w.ownsRow base e s v n ys) (hb:b < base):(w.setCell ⟨b,i,none⟩ u).ownsRow base e s v n ys :=
 ownsRow_setCell_other h (fun e2=>by have:=(h.lt b e2).1;omega) u
theorem own_up {w:World} {base base' e s n:Nat} {v:Value} {ys:List Value} (h:w.ownsRow base e s v n ys) (hb:base'≤base):w.ownsRow base' e s v n ys:=own_base h (fun k hk=>by have:=(h.lt k hk).1;omega)
structure TreeIn (g:Nat) (w:World) (v:Value) (xs:List NV) (its:List Int):Prop where
 ex:∃ nv iv q,v=.agg #[nv,iv]∧w.ownsRow g 50 5 nv xs.length (ndRow xs)∧its.length=q∧w.ownsRow (g+1) 3 1 iv q (intCells its)
 kids:∀ x ∈ xs,w.ownsRow (g+1) 3 1 x.2 x.1.kids.length (intCells x.1.kids)
def ParsePost (l:List Tok) (en:Int) (w:World) (r:Res) (e:Ending) (w':World):Prop :=
 match r with
 | .ok its _ ns=>∃ v xs,e=.returned (.tuple #[v,.int .i64 0,.int .i64 0])∧nds xs=ns∧TreeIn w.heap.size w' v xs its∧Below w.heap.size w w'
 | .bad k=>e=.returned (.tuple #[.agg #[.slice none 0 0,.slice none 0 0],.int .i64 (pl l en k),.int .i64 4])∧Below w.heap.size w w'
theorem toks_in {w w':World} {tv:Value} {l:List Tok} {g:Nat} (h:Toks w tv l) (hb:Below w.heap.size w w') (hg:w.heap.size≤g):TokIn w' g tv l:=by
 obtain⟨A,c,rfl,hc,hr⟩:=h
 exact⟨A,c,rfl,hc,(hr.below hb).more hg⟩
section
variable {tv:Value} {l:List Tok} {en:Int} (hF:PF l)
include hF
theorem pr_new {w w1:World} (hT:Toks w tv l) (hE:Env w) (hb:Below w.heap.size w w1):PR w1.heap.size tv l en (.slice none 0 0) (w1.alloc (.cells #[tv,.int .i64 en,.int .i64 0,.slice none 0 0,.slice none 0 0] 107)) 0 [] (.slice none 0 0) [] 0:=by
 have h2:Below w.heap.size w (w1.alloc (.cells #[tv,.int .i64 en,.int .i64 0,.slice none 0 0,.slice none 0 0] 107)):=balloc hb hb.size
 obtain⟨B,hB,hE⟩:=hE
 refine⟨⟨Blk.new w1 _ _,World.ownsRow_nil _ _ _ _,(fun x hx=>nomatch hx),toks_in hT h2 hb.size,?_⟩,rfl,World.ownsRow_nil _ _ _ _,(fun x hx=>nomatch hx),(fun x hx=>nomatch hx)⟩
 intro w'' h''
 exact hE w'' ((h2.mono hB).trans (h''.mono (Nat.le_trans hB hb.size)))
theorem parse_any (n f:Nat) (w:World) (r:Res) (hT:Toks w tv l) (hE:Env w) (hr:prog l en n f 0 [] []=some r) :
  Calls Tryz.prog 51 #[tv,.int .i64 en] w (ParsePost l en w r):=by
 have hmf:∀ (fn:Fn) (first cap:Array Value) (w:World),(Instr.makeFunc fn first cap).run Tryz.prog w=.ok (.func fn first cap) w:=fun _ _ _ _=>rfl
 obtain⟨A,c,rfl,hlc,hrd⟩:=hT
 have HT:=hid (show Toks w (.slice A l.length c) l from ⟨A,c,rfl,hlc,hrd⟩);clear hrd hlc
 have HE:=hid hE;clear hE
 have HR:=hid hr;clear hr
 go_enter_defers Tryz.func51,Tryz.ntmps51
 have hs1:(w.alloc (.cells #[.slice none 0 0,.slice none 0 0] 26)).heap.size=w.heap.size+1:=by simp
 have hs2:((w.alloc (.cells #[.slice none 0 0,.slice none 0 0] 26)).alloc (.cells #[.int .i64 0] 3)).heap.size=w.heap.size+1+1:=by simp
 have hs3:(((w.alloc (.cells #[.slice none 0 0,.slice none 0 0] 26)).alloc (.cells #[.int .i64 0] 3)).alloc (.cells #[.int .i64 0] 27)).heap.size=w.heap.size+1+1+1:=by simp
 have hpr:=pr_new hF (en:=en) HT.out HE.out (w1:=(((w.alloc (.cells #[.slice none 0 0,.slice none 0 0] 26)).alloc (.cells #[.int .i64 0] 3)).alloc (.cells #[.int .i64 0] 27))) (balloc (balloc (balloc (Below.refl _ _) (Nat.le_refl _)) (by simp)) (by simp;omega))
 rw [hs3] at hpr
 have hbt:=(((Blk.new w 26 #[.slice none 0 0,.slice none 0 0]).alloc (.cells #[.int .i64 0] 3)).alloc (.cells #[.int .i64 0] 27)).alloc (.cells #[.slice A l.length c,.int .i64 en,.int .i64 0,.slice none 0 0,.slice none 0 0] 107)
 have hba:=((Blk.new (w.alloc (.cells #[.slice none 0 0,.slice none 0 0] 26)) 3 #[.int .i64 0]).alloc (.cells #[.int .i64 0] 27)).alloc (.cells #[.slice A l.length c,.int .i64 en,.int .i64 0,.slice none 0 0,.slice none 0 0] 107)
 rw [hs1] at hba
 have hbe:=(Blk.new ((w.alloc (.cells #[.slice none 0 0,.slice none 0 0] 26)).alloc (.cells #[.int .i64 0] 3)) 27 #[.int .i64 0]).alloc (.cells #[.slice A l.length c,.int .i64 en,.int .i64 0,.slice none 0 0,.slice none 0 0] 107)
 rw [hs2] at hbe
 have HLOW:=hid (balloc (balloc (balloc (balloc (Below.refl w.heap.size w) (Nat.le_refl _) (o:=(.cells #[.slice none 0 0,.slice none 0 0] 26))) (by simp) (o:=(.cells #[.int .i64 0] 3))) (by simp;omega) (o:=(.cells #[.int .i64 0] 27))) (by simp;omega) (o:=(.cells #[.slice A l.length c,.int .i64 en,.int .i64 0,.slice none 0 0,.slice none 0 0] 107)))
 have HPR:=hid hpr;clear hpr
 have HBT:=hid hbt;clear hbt
 have HBA:=hid hba;clear hba
 have HBE:=hid hbe;clear hbe
 clear hs1 hs2 hs3
 go_wp2_with fail
 refine (program_any hF n f _ 0 0 [] _ _ [] r HPR.out (Nat.zero_le _) (Nat.le_refl _) (Nat.le_refl _) (fun i nd h=>by simp [nds] at h) HR.out).mono ?_
 intro e w5 hp
 cases r with
 | bad kb =>
  obtain⟨rfl,hb⟩:=hp
  have ht5:=HBT.out.below hb (by omega)
  have ha5:=HBA.out.below hb (by omega)
  have he5:=HBE.out.below hb (by omega)
  have HB5:=hid hb;clear hb
  unfold wrongAt
  go_wp2_with fail
  refine leaves_cons (f:=92) (args:=#[.pointer (some ⟨w.heap.size,0,none⟩),.pointer (some ⟨w.heap.size+1,0,none⟩),.pointer (some ⟨w.heap.size+1+1,0,none⟩)]) (by simp) (by simp [go_sem]) ?_
  refine (catch_wrong w.heap.size (w.heap.size+1) (w.heap.size+1+1) _ _ _ _ (pl l en kb) [] _ ht5 ha5 he5 (by omega) (by omega)).mono ?_
  rintro e u' w6 ⟨rfl,rfl,ht,ha,he,hb6⟩
  have k0:=ht.cell 0
  have k1:=ht.cell 1
  have k2:=ha.cell 0
  have k3:=he.cell 0
  have HFIN:=hid (HLOW.out.trans ((HB5.out.mono (by omega)).trans hb6))
  clear ht ha he hb6 ht5 ha5 he5
  simp [Leaves,settle,results,Tryz.f51,go_sem,k0,k1,k2,k3]
  exact⟨rfl,HFIN.out⟩
 | ok its k1 ns1 =>
  obtain⟨⟨v,rfl⟩,⟨xs,nv,iv,q,hpr,hns⟩,hb⟩:=hp
  obtain⟨An,cn,rfl⟩:=own_form hpr.ps.own
  obtain⟨Ai,ci,rfl⟩:=own_form hpr.row
  have ht5:=HBT.out.below hb (by omega)
  have ha5:=HBA.out.below hb (by omega)
  have he5:=HBE.out.below hb (by omega)
  have HB5:=hid hb;clear hb
  have HP5:=hid hpr;clear hpr
  have HNS:=hid hns;clear hns
  have g3:=HP5.out.ps.blk.cell 3
  have g4:=HP5.out.ps.blk.cell 4
  have t0:=ht5.cell 0
  have t1:=ht5.cell 1
  have a0:=ha5.cell 0
  have e0:=he5.cell 0
  have ft0:=ht5.frozen 0
  have ft1:=ht5.frozen 1
  have fa0:=ha5.frozen 0
  have fe0:=he5.frozen 0
  go_wp2_with fail
  refine leaves_cons (f:=92) (args:=#[.pointer (some ⟨w.heap.size,0,none⟩),.pointer (some ⟨w.heap.size+1,0,none⟩),.pointer (some ⟨w.heap.size+1+1,0,none⟩)]) (by simp) (by simp [go_sem]) ?_
  refine (catch_idle _ _ _ _).mono ?_
  rintro e u' w6 ⟨rfl,rfl,rfl⟩
  simp [Leaves,settle,results,Tryz.f51,go_sem,t0,t1,a0,e0]
  have HB7:=hid (HLOW.out.trans (HB5.out.mono (by omega)))
  have rn:=own_set (u:=.int .i64 0) (i:=0) (b:=w.heap.size+1+1) (own_set (u:=.int .i64 0) (i:=0) (b:=w.heap.size+1) (own_set (u:=.slice Ai q ci) (i:=1) (b:=w.heap.size) (own_set (u:=.slice An xs.length cn) (i:=0) (b:=w.heap.size) HP5.out.ps.own (by omega)) (by omega)) (by omega)) (by omega)
  have ri:=own_set (u:=.int .i64 0) (i:=0) (b:=w.heap.size+1+1) (own_set (u:=.int .i64 0) (i:=0) (b:=w.heap.size+1) (own_set (u:=.slice Ai q ci) (i:=1) (b:=w.heap.size) (own_set (u:=.slice An xs.length cn) (i:=0) (b:=w.heap.size) HP5.out.row (by omega)) (by omega)) (by omega)) (by omega)
  refine⟨_,xs,rfl,HNS.out,⟨⟨_,_,q,rfl,own_up rn (by omega),HP5.out.len,own_up ri (by omega)⟩,fun x hx=>?_⟩,bset (bset (bset (bset HB7.out (Nat.le_refl _)) (Nat.le_refl _)) (by omega)) (by omega)⟩
  have rk:=own_base (base':=w.heap.size+1+1+1) (HP5.out.ps.kids x hx) (fun b hb=>Nat.le_of_lt (HP5.out.far x hx b hb))
  have rk2:=own_set (u:=.int .i64 0) (i:=0) (b:=w.heap.size+1+1) (own_set (u:=.int .i64 0) (i:=0) (b:=w.heap.size+1) (own_set (u:=.slice Ai q ci) (i:=1) (b:=w.heap.size) (own_set (u:=.slice An xs.length cn) (i:=0) (b:=w.heap.size) rk (by omega)) (by omega)) (by omega)) (by omega)
  exact own_up rk2 (by omega)
end
end Go.Proofs.YthepmkjggfijoaaGreatDoor
namespace Go.Proofs.YthepmkjggfijoaaGreatDoor
open Go.RowKit Mist
theorem add_none (b o n:Nat):(⟨b,o,none⟩:Addr).add n=⟨b,o+n,none⟩:=by
 unfold Addr.add
 split
 ·rename_i h;rw [h];rfl
 ·rfl
theorem dec_le (a b:Nat) (r:Bool) (h:decide (a≤b)=r):decide ((a:Int)≤(b:Int))=r:=by
 rw [← h];congr 1;exact propext ⟨fun h=>by omega,fun h=>by omega⟩
theorem within_any (n lo hi:Int) (r:Bool) (hr:Mist.within n lo hi=r) (w:World):Calls Tryz.prog 65 #[.int .i64 n,.int .i64 lo,.int .i64 hi] w fun e w'=>e=.returned (.bool r)∧w=w':=by
 have HR:=hid hr;clear hr
 by_cases h1:lo≤n
 ·have a1:decide (lo≤n)=true:=decide_eq_true h1
  by_cases h2:n≤hi
  ·have a2:decide (n≤hi)=true:=decide_eq_true h2
   have HX:=hid (show r=true by rw [← HR.out];simp [Mist.within,h1,h2])
   go_enter Tryz.func65,Tryz.ntmps65
   go_wp2
   go_ret
   exact⟨ret_bool HX.out.symm,rfl⟩
  ·have a2:decide (n≤hi)=false:=decide_eq_false h2
   have HX:=hid (show r=false by rw [← HR.out];simp [Mist.within,h2])
   go_enter Tryz.func65,Tryz.ntmps65
   go_wp2
   go_ret
   exact⟨ret_bool HX.out.symm,rfl⟩
 ·have a1:decide (lo≤n)=false:=decide_eq_false h1
  have HX:=hid (show r=false by rw [← HR.out];simp [Mist.within,h1])
  go_enter Tryz.func65,Tryz.ntmps65
  go_wp2
  go_ret
  exact⟨ret_bool HX.out.symm,rfl⟩
theorem kind_of (k:Nat) (r:Bool) (hr:isTyp k=r) (w:World):Calls Tryz.prog 161 #[.int .u8 k] w fun e w'=>e=.returned (.bool r)∧w=w':=by
 have HR:=hid hr;clear hr
 by_cases h1:30≤k
 ·have a1:decide ((30:Int)≤(k:Int))=true:=decide_eq_true (by omega)
  by_cases h2:k≤33
  ·have a2:decide ((k:Int)≤(33:Int))=true:=decide_eq_true (by omega)
   have HX:=hid (show r=true by rw [← HR.out];simp [isTyp,h1,h2])
   go_enter Tryz.func161,Tryz.ntmps161
   go_wp2
   go_ret
   exact⟨ret_bool HX.out.symm,rfl⟩
  ·have a2:decide ((k:Int)≤(33:Int))=false:=decide_eq_false (by omega)
   have HX:=hid (show r=false by rw [← HR.out];simp [isTyp,h2])
   go_enter Tryz.func161,Tryz.ntmps161
   go_wp2
   go_ret
   exact⟨ret_bool HX.out.symm,rfl⟩
 ·have a1:decide ((30:Int)≤(k:Int))=false:=decide_eq_false (by omega)
  have HX:=hid (show r=false by rw [← HR.out];simp [isTyp,h1])
  go_enter Tryz.func161,Tryz.ntmps161
  go_wp2
  go_ret
  exact⟨ret_bool HX.out.symm,rfl⟩
theorem item_of (k:Nat) (r:Bool) (hr:isItem k=r) (w:World):Calls Tryz.prog 107 #[.int .u8 k] w fun e w'=>e=.returned (.bool r)∧w=w':=by
 have HR:=hid hr;clear hr
 by_cases h1:40≤k
 ·have a1:decide ((40:Int)≤(k:Int))=true:=decide_eq_true (by omega)
  by_cases h2:k≤46
  ·have a2:decide ((k:Int)≤(46:Int))=true:=decide_eq_true (by omega)
   have HX:=hid (show r=true by rw [← HR.out];simp [isItem,h1,h2])
   go_enter Tryz.func107,Tryz.ntmps107
   go_wp2
   go_ret
   exact⟨ret_bool HX.out.symm,rfl⟩
  ·have a2:decide ((k:Int)≤(46:Int))=false:=decide_eq_false (by omega)
   have HX:=hid (show r=false by rw [← HR.out];simp [isItem,h2])
   go_enter Tryz.func107,Tryz.ntmps107
   go_wp2
   go_ret
   exact⟨ret_bool HX.out.symm,rfl⟩
 ·have a1:decide ((40:Int)≤(k:Int))=false:=decide_eq_false (by omega)
  have HX:=hid (show r=false by rw [← HR.out];simp [isItem,h1])
  go_enter Tryz.func107,Tryz.ntmps107
  go_wp2
  go_ret
  exact⟨ret_bool HX.out.symm,rfl⟩
theorem expression_of (k:Nat) (r:Bool) (hr:isExpr k=r) (w:World):Calls Tryz.prog 69 #[.int .u8 k] w fun e w'=>e=.returned (.bool r)∧w=w':=by
 have HR:=hid hr;clear hr
 by_cases h1:1≤k
 ·have a1:decide ((1:Int)≤(k:Int))=true:=decide_eq_true (by omega)
  by_cases h2:k≤26
  ·have a2:decide ((k:Int)≤(26:Int))=true:=decide_eq_true (by omega)
   by_cases h3:k=25
   ·have a3:((k:Int) != 25)=false:=by rw [h3];rfl
    have HX:=hid (show r=false by rw [← HR.out];rw [h3];decide)
    go_enter Tryz.func69,Tryz.ntmps69
    go_wp2
    go_ret
    exact⟨ret_bool HX.out.symm,rfl⟩
   ·have a3:((k:Int) != 25)=true:=by rw [bne_iff_ne];omega
    have HX:=hid (show r=true by rw [← HR.out];simp [isExpr,h1,h2,h3])
    go_enter Tryz.func69,Tryz.ntmps69
    go_wp2
    go_ret
    exact⟨ret_bool HX.out.symm,rfl⟩
  ·have a2:decide ((k:Int)≤(26:Int))=false:=decide_eq_false (by omega)
   have HX:=hid (show r=false by rw [← HR.out];simp [isExpr,h2])
   go_enter Tryz.func69,Tryz.ntmps69
   go_wp2
   go_ret
   exact⟨ret_bool HX.out.symm,rfl⟩
 ·have a1:decide ((1:Int)≤(k:Int))=false:=decide_eq_false (by omega)
  have HX:=hid (show r=false by rw [← HR.out];simp [isExpr,h1])
  go_enter Tryz.func69,Tryz.ntmps69
  go_wp2
  go_ret
  exact⟨ret_bool HX.out.symm,rfl⟩
theorem param_of (k:Nat) (r:Bool) (hr:decide (k=34)=r) (w:World):Calls Tryz.prog 163 #[.int .u8 k] w fun e w'=>e=.returned (.bool r)∧w=w':=by
 have HR:=hid hr;clear hr
 by_cases h1:k=34
 ·have a1:((k:Int) == 34)=true:=by rw [h1];rfl
  have HX:=hid (show r=true by rw [← HR.out];simp [h1])
  go_enter Tryz.func163,Tryz.ntmps163
  go_wp2
  go_ret
  exact⟨ret_bool HX.out.symm,rfl⟩
 ·have a1:((k:Int) == 34)=false:=by rw [beq_eq_false_iff_ne];omega
  have HX:=hid (show r=false by rw [← HR.out];simp [h1])
  go_enter Tryz.func163,Tryz.ntmps163
  go_wp2
  go_ret
  exact⟨ret_bool HX.out.symm,rfl⟩
theorem put_of (k:Nat) (r:Bool) (hr:decide (k=25)=r) (w:World):Calls Tryz.prog 160 #[.int .u8 k] w fun e w'=>e=.returned (.bool r)∧w=w':=by
 have HR:=hid hr;clear hr
 by_cases h1:k=25
 ·have a1:((k:Int) == 25)=true:=by rw [h1];rfl
  have HX:=hid (show r=true by rw [← HR.out];simp [h1])
  go_enter Tryz.func160,Tryz.ntmps160
  go_wp2
  go_ret
  exact⟨ret_bool HX.out.symm,rfl⟩
 ·have a1:((k:Int) == 25)=false:=by rw [beq_eq_false_iff_ne];omega
  have HX:=hid (show r=false by rw [← HR.out];simp [h1])
  go_enter Tryz.func160,Tryz.ntmps160
  go_wp2
  go_ret
  exact⟨ret_bool HX.out.symm,rfl⟩
theorem num_of (k:Nat) (r:Bool) (hr:decide (k=1)=r) (w:World):Calls Tryz.prog 162 #[.int .u8 k] w fun e w'=>e=.returned (.bool r)∧w=w':=by
 have HR:=hid hr;clear hr
 by_cases h1:k=1
 ·have a1:((k:Int) == 1)=true:=by rw [h1];rfl
  have HX:=hid (show r=true by rw [← HR.out];simp [h1])
  go_enter Tryz.func162,Tryz.ntmps162
  go_wp2
  go_ret
  exact⟨ret_bool HX.out.symm,rfl⟩
 ·have a1:((k:Int) == 1)=false:=by rw [beq_eq_false_iff_ne];omega
  have HX:=hid (show r=false by rw [← HR.out];simp [h1])
  go_enter Tryz.func162,Tryz.ntmps162
  go_wp2
  go_ret
  exact⟨ret_bool HX.out.symm,rfl⟩
def pdFn:Pd→Nat
 | .expr=>69
 | .typ=>161
 | .param=>163
 | .put=>160
 | .num=>162
def pdV (p:Pd):Value:=.func (.func (pdFn p)) #[] #[]
theorem pd_of (p:Pd) (k:Nat) (r:Bool) (hr:p.is k=r) (w:World):Calls Tryz.prog (pdFn p) #[.int .u8 k] w fun e w'=>e=.returned (.bool r)∧w=w':=by
 cases p with
 | expr=>exact expression_of k r hr w
 | typ=>exact kind_of k r hr w
 | param=>exact param_of k r hr w
 | put=>exact put_of k r hr w
 | num=>exact num_of k r hr w
theorem asks_expr (k:Nat) (r:Bool) (hr:Pd.expr.is k=r) (w:World) (least most:Value) (g:Nat) (T:TypeId) (hg:Blk w g T #[least,most,pdV .expr]):Calls Tryz.prog 167 #[.int .u8 k,.pointer (some ⟨g,0,none⟩)] w fun e w'=>e=.returned (.bool (!r))∧w=w':=by
 have c2:=hg.cell 2
 have HR:=hid (pd_of .expr k r hr w);clear hr
 simp only [pdV,pdFn] at c2 HR
 go_enter Tryz.func167,Tryz.ntmps167
 go_wp2_with (refine HR.out.mono ?_;rintro e w' ⟨rfl,rfl⟩)
 go_ret
 exact⟨rfl,rfl⟩
theorem asks_typ (k:Nat) (r:Bool) (hr:Pd.typ.is k=r) (w:World) (least most:Value) (g:Nat) (T:TypeId) (hg:Blk w g T #[least,most,pdV .typ]):Calls Tryz.prog 167 #[.int .u8 k,.pointer (some ⟨g,0,none⟩)] w fun e w'=>e=.returned (.bool (!r))∧w=w':=by
 have c2:=hg.cell 2
 have HR:=hid (pd_of .typ k r hr w);clear hr
 simp only [pdV,pdFn] at c2 HR
 go_enter Tryz.func167,Tryz.ntmps167
 go_wp2_with (refine HR.out.mono ?_;rintro e w' ⟨rfl,rfl⟩)
 go_ret
 exact⟨rfl,rfl⟩
theorem asks_param (k:Nat) (r:Bool) (hr:Pd.param.is k=r) (w:World) (least most:Value) (g:Nat) (T:TypeId) (hg:Blk w g T #[least,most,pdV .param]):Calls Tryz.prog 167 #[.int .u8 k,.pointer (some ⟨g,0,none⟩)] w fun e w'=>e=.returned (.bool (!r))∧w=w':=by
 have c2:=hg.cell 2
 have HR:=hid (pd_of .param k r hr w);clear hr
 simp only [pdV,pdFn] at c2 HR
 go_enter Tryz.func167,Tryz.ntmps167
 go_wp2_with (refine HR.out.mono ?_;rintro e w' ⟨rfl,rfl⟩)
 go_ret
 exact⟨rfl,rfl⟩
theorem asks_put (k:Nat) (r:Bool) (hr:Pd.put.is k=r) (w:World) (least most:Value) (g:Nat) (T:TypeId) (hg:Blk w g T #[least,most,pdV .put]):Calls Tryz.prog 167 #[.int .u8 k,.pointer (some ⟨g,0,none⟩)] w fun e w'=>e=.returned (.bool (!r))∧w=w':=by
 have c2:=hg.cell 2
 have HR:=hid (pd_of .put k r hr w);clear hr
 simp only [pdV,pdFn] at c2 HR
 go_enter Tryz.func167,Tryz.ntmps167
 go_wp2_with (refine HR.out.mono ?_;rintro e w' ⟨rfl,rfl⟩)
 go_ret
 exact⟨rfl,rfl⟩
theorem asks_num (k:Nat) (r:Bool) (hr:Pd.num.is k=r) (w:World) (least most:Value) (g:Nat) (T:TypeId) (hg:Blk w g T #[least,most,pdV .num]):Calls Tryz.prog 167 #[.int .u8 k,.pointer (some ⟨g,0,none⟩)] w fun e w'=>e=.returned (.bool (!r))∧w=w':=by
 have c2:=hg.cell 2
 have HR:=hid (pd_of .num k r hr w);clear hr
 simp only [pdV,pdFn] at c2 HR
 go_enter Tryz.func167,Tryz.ntmps167
 go_wp2_with (refine HR.out.mono ?_;rintro e w' ⟨rfl,rfl⟩)
 go_ret
 exact⟨rfl,rfl⟩
end Go.Proofs.YthepmkjggfijoaaGreatDoor
namespace Go.Proofs.YthepmkjggfijoaaGreatDoor
open Go.RowKit Mist
structure IntsIn (w:World) (A:Option Addr) (ks:List Int):Prop where
 ex:0 < ks.length→∃ b o,A=some ⟨b,o,none⟩∧b < w.heap.size∧∀ (j:Nat) k,ks[j]? = some k→w.cell? ⟨b,o+j,none⟩=some (.int .i64 k)
theorem IntsIn.below {w w':World} {A:Option Addr} {ks:List Int} (h:IntsIn w A ks) (hb:Below w.heap.size w w'):IntsIn w' A ks :=
 ⟨fun h0=>by
  obtain⟨b,o,e,hl,hc⟩:=h.ex h0
  exact⟨b,o,e,Nat.lt_of_lt_of_le hl hb.size,fun j k hk=>(hb.cell (by exact hl)).trans (hc j k hk)⟩⟩
structure NdsAt (w:World) (b o:Nat) (xs:List NV):Prop where
 kids:KidsAt w b o xs
 c0:∀ (i:Nat) x,xs[i]? = some x→w.cell? ⟨b,o+i * 5,none⟩=some (.int .u8 x.1.kind)
 c1:∀ (i:Nat) x,xs[i]? = some x→w.cell? ⟨b,o+i * 5+1,none⟩=some (.string (ofL x.1.text))
 c2:∀ (i:Nat) x,xs[i]? = some x→w.cell? ⟨b,o+i * 5+2,none⟩=some (.int .i64 x.1.n)
 c4:∀ (i:Nat) x,xs[i]? = some x→w.cell? ⟨b,o+i * 5+4,none⟩=some (.int .i64 x.1.at_)
theorem NdsAt.lt {w:World} {b o:Nat} {xs:List NV} (h:NdsAt w b o xs):b < w.heap.size:=h.kids.lt
theorem NdsAt.c3 {w:World} {b o:Nat} {xs:List NV} (h:NdsAt w b o xs) (i:Nat) (x:NV) (hx:xs[i]? = some x):w.cell? ⟨b,o+i * 5+3,none⟩=some x.2:=h.kids.kv i x hx
theorem NdsAt.below {w w':World} {b o:Nat} {xs:List NV} (h:NdsAt w b o xs) (hb:Below w.heap.size w w'):NdsAt w' b o xs :=
 ⟨h.kids.below hb,fun i x hx=>(hb.cell (by exact h.lt)).trans (h.c0 i x hx),fun i x hx=>(hb.cell (by exact h.lt)).trans (h.c1 i x hx),fun i x hx=>(hb.cell (by exact h.lt)).trans (h.c2 i x hx),fun i x hx=>(hb.cell (by exact h.lt)).trans (h.c4 i x hx)⟩
theorem NdsAt.kid {w:World} {b o:Nat} {xs:List NV} (h:NdsAt w b o xs) {i:Nat} {x:NV} (hx:xs[i]? = some x):∃ A c,x.2=.slice A x.1.kids.length c∧x.1.kids.length≤1000000∧IntsIn w A x.1.kids:=by
 obtain⟨A,c,h1,h2,h3⟩:=h.kids.kids x (List.mem_of_getElem? hx)
 exact⟨A,c,h1,h2,⟨h3⟩⟩
structure TAt (w:World) (A B:Option Addr) (xs:List NV) (its:List Int):Prop where
 nodes:0 < xs.length→∃ b o,A=some ⟨b,o,none⟩∧NdsAt w b o xs
 items:IntsIn w B its
theorem TAt.below {w w':World} {A B:Option Addr} {xs:List NV} {its:List Int} (h:TAt w A B xs its) (hb:Below w.heap.size w w'):TAt w' A B xs its :=
 ⟨fun h0=>by obtain⟨b,o,e,hn⟩:=h.nodes h0;exact⟨b,o,e,hn.below hb⟩,h.items.below hb⟩
structure NdR (n:Nd):Prop where
 kind:n.kind < 256
 text:n.text.length≤100000000
 num:lowN≤n.n∧n.n≤highN
 place:lowN≤n.at_∧n.at_≤highN
 kids:∀ c ∈ n.kids,lowN≤c∧c≤highN
def TrR (ns:List Nd):Prop:=∀ n ∈ ns,NdR n
theorem nds_get {xs:List NV} {i:Nat} {x:NV} (h:xs[i]? = some x):(nds xs)[i]? = some x.1:=by unfold nds;rw [List.getElem?_map,h];rfl
theorem nd_nds {xs:List NV} {i:Nat} {x:NV} (its:List Int) (h:xs[i]? = some x):nd ⟨nds xs,its⟩ i=x.1:=nd_of (t:=⟨nds xs,its⟩) (nds_get h)
theorem xs_at {xs:List NV} {i:Nat} (h:i < xs.length):∃ x,xs[i]? = some x:=⟨_,List.getElem?_eq_getElem h⟩
theorem ndRow_get:∀ (xs:List NV) (i k:Nat) (x:NV),xs[i]? = some x→k < 5→(ndRow xs)[i * 5+k]? = (ndCells x)[k]?
 | [],_,_,_,h,_=>by simp at h
 | y :: r,0,k,x,h,hk=>by
  have:y=x:=by simpa using h
  subst this
  rw [show ndRow (y :: r)=ndCells y ++ ndRow r from rfl,List.getElem?_append_left (by simp [ndCells];omega)]
  simp
 | y :: r,i+1,k,x,h,hk=>by
  rw [show ndRow (y :: r)=ndCells y ++ ndRow r from rfl,List.getElem?_append_right (by simp [ndCells];omega)]
  have e:(i+1) * 5+k - (ndCells y).length=i * 5+k:=by simp [ndCells];omega
  rw [e]
  exact ndRow_get r i k x (by simpa using h) hk
theorem own_ints {w:World} {base:Nat} {A:Option Addr} {n c:Nat} {ks:List Int} (h:w.ownsRow base 3 1 (.slice A n c) n (intCells ks)) (hn:n=ks.length):IntsIn w A ks:=by
 subst hn
 refine⟨fun h0=>?_⟩
 obtain⟨g,cap,hv,_,hlt⟩:=h.form h0
 have hA:A=some ⟨g,0,none⟩:=by injection hv
 subst hA
 refine⟨g,0,rfl,hlt,fun j k hk=>?_⟩
 have:=h.cells (g:=g) rfl j (.int .i64 k) (by simp [intCells,hk])
 rw [add_none] at this
 exact this
theorem own_nodes {w:World} {base:Nat} {A:Option Addr} {c:Nat} {xs:List NV} (h:w.ownsRow base 50 5 (.slice A xs.length c) xs.length (ndRow xs)) (h0:0 < xs.length) (hk:∀ x ∈ xs,∃ b',w.ownsRow b' 3 1 x.2 x.1.kids.length (intCells x.1.kids)) (hkl:∀ x ∈ xs,x.1.kids.length≤1000000):∃ g,A=some ⟨g,0,none⟩∧NdsAt w g 0 xs:=by
 obtain⟨g,cap,hv,_,hlt⟩:=h.form h0
 have hA:A=some ⟨g,0,none⟩:=by injection hv
 subst hA
 have hc:∀ (i k:Nat) x u,xs[i]? = some x→k < 5→(ndCells x)[k]? = some u→w.cell? ⟨g,0+(i * 5+k),none⟩=some u:=by
  intro i k x u hx hk5 hu
  have:=h.cells (g:=g) rfl (i * 5+k) u (by rw [ndRow_get xs i k x hx hk5];exact hu)
  rw [add_none] at this
  exact this
 refine⟨g,rfl,⟨hlt,fun i x hx=>?_,fun x hx=>?_⟩,fun i x hx=>?_,fun i x hx=>?_,fun i x hx=>?_,fun i x hx=>?_⟩
 ·exact hc i 3 x _ hx (by omega) rfl
 ·obtain⟨b',ho⟩:=hk x hx
  obtain⟨Ak,ck,he⟩:=own_form ho
  rw [he] at ho
  exact⟨Ak,ck,he,hkl x hx,(own_ints ho rfl).ex⟩
 ·exact hc i 0 x _ hx (by omega) rfl
 ·exact hc i 1 x _ hx (by omega) rfl
 ·exact hc i 2 x _ hx (by omega) rfl
 ·exact hc i 4 x _ hx (by omega) rfl
theorem TreeIn.tAt {g:Nat} {w:World} {v:Value} {xs:List NV} {its:List Int} (h:TreeIn g w v xs its) (hkl:∀ x ∈ xs,x.1.kids.length≤1000000):∃ A B c d,v=.agg #[.slice A xs.length c,.slice B its.length d]∧TAt w A B xs its:=by
 obtain⟨⟨nv,iv,q,rfl,h1,rfl,h2⟩,hk⟩:=h
 obtain⟨A,c,rfl⟩:=own_form h1
 obtain⟨B,d,rfl⟩:=own_form h2
 refine⟨A,B,c,d,rfl,fun h0=>?_,own_ints h2 rfl⟩
 obtain⟨gb,e,hn⟩:=own_nodes h1 h0 (fun x hx=>⟨_,hk x hx⟩) hkl
 exact⟨gb,0,e,hn⟩
end Go.Proofs.YthepmkjggfijoaaGreatDoor
