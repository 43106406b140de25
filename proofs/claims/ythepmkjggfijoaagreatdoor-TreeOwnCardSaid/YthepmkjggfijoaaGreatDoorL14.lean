/-
  A part of the proof.
-/
import Derived.Test.YthepmkjggfijoaaGreatDoorSA
import Derived.Test.YthepmkjggfijoaaGreatDoorS30
import Derived.Test.YthepmkjggfijoaaGreatDoorL06
import Derived.Test.YthepmkjggfijoaaGreatDoorL10
import Derived.Test.YthepmkjggfijoaaGreatDoorL13
set_option linter.all false
set_option maxRecDepth 100000
set_option maxHeartbeats 4000000
namespace Go.Proofs.YthepmkjggfijoaaGreatDoor
open Go.RowKit Mist
attribute [local go_sem] aj aH aS aB ak
theorem GY (K:Nat)(t:Bs)(n:Int)(v:Value)(a:Int)(w:World)(d:K=3∨K=4∨K=5∨K=19∨K=20∨K=21∨K=22∨K=23∨K=24∨K=25∨K=26∨K=30∨K=31∨K=32∨K=33∨K=34∨K=43)(hv:∃ A n c,v=.slice A n c) :
  Calls Tryz.prog 33 #[.agg #[.int .u8 (K:Int),.string (aM t),.int .i64 n,v,.int .i64 a]] w fun e f=>e=.returned (.string (aM (markT ⟨K,t,n,[],a⟩)))∧Below w.heap.size w f:=by
 obtain⟨A,m,c,rfl⟩:=hv;have b:=O (ah (Below.refl w.heap.size w) (aaJ _) (o:=.cells #[.int .u8 (K:Int),.string (aM t),.int .i64 n,.slice A m c,.int .i64 a] 50))
 rcases d with rfl | rfl | rfl | rfl | rfl | rfl | rfl | rfl | rfl | rfl | rfl | rfl | rfl | rfl | rfl | rfl | rfl <;>
  (go_enter Tryz.func33, Tryz.ntmps33
   go_wp2_with fail;go_ret;exact⟨rfl,b.o⟩)
theorem iQ (r:Nat)(h:r < 13)(w:World):Sem.run Tryz.prog (Instr.index 92 (.agg #[.string ⟨#[43]⟩,.string ⟨#[45]⟩,.string ⟨#[42]⟩,.string ⟨#[47]⟩,.string ⟨#[37]⟩,.string ⟨#[61,61]⟩,.string ⟨#[33,61]⟩,.string ⟨#[60]⟩,.string ⟨#[60,61]⟩,.string ⟨#[62]⟩,.string ⟨#[62,61]⟩,.string ⟨#[97,110,100]⟩,.string ⟨#[111,114]⟩]) (.int .u8 (r:Int))) w=.ok (.string (aM (sg fD r))) w:=by
 obtain rfl | rfl | rfl | rfl | rfl | rfl | rfl | rfl | rfl | rfl | rfl | rfl | rfl:r=0∨r=1∨r=2∨r=3∨r=4∨r=5∨r=6∨r=7∨r=8∨r=9∨r=10∨r=11∨r=12:=by omega
 all_goals kernel_rfl
theorem QI (K:Nat)(t:Bs)(n:Int)(v:Value)(a:Int)(w:World)(f:K=6∨K=7∨K=8∨K=9∨K=10∨K=11∨K=12∨K=13∨K=14∨K=15∨K=16∨K=17∨K=18)(hv:∃ A n c,v=.slice A n c) :
  Calls Tryz.prog 33 #[.agg #[.int .u8 (K:Int),.string (aM t),.int .i64 n,v,.int .i64 a]] w fun e g=>e=.returned (.string (aM (markT ⟨K,t,n,[],a⟩)))∧Below w.heap.size w g:=by
 obtain⟨A,m,c,rfl⟩:=hv;have d:=O (ah (Below.refl w.heap.size w) (aaJ _) (o:=.cells #[.int .u8 (K:Int),.string (aM t),.int .i64 n,.slice A m c,.int .i64 a] 50));rcases f with rfl | rfl | rfl | rfl | rfl | rfl | rfl | rfl | rfl | rfl | rfl | rfl | rfl
 ·have b:=fun w=>iQ 0 (by omega) w
  rw [show ((0:Nat):Int)=(0:Int) from rfl] at b
  go_in
  go_wp2_with fail;go_ret;exact⟨rfl,d.o⟩
 ·have b:=fun w=>iQ 1 (by omega) w
  rw [show ((1:Nat):Int)=(1:Int) from rfl] at b
  go_in
  go_wp2_with fail;go_ret;exact⟨rfl,d.o⟩
 ·have b:=fun w=>iQ 2 (by omega) w
  rw [show ((2:Nat):Int)=(2:Int) from rfl] at b
  go_in
  go_wp2_with fail;go_ret;exact⟨rfl,d.o⟩
 ·have b:=fun w=>iQ 3 (by omega) w
  rw [show ((3:Nat):Int)=(3:Int) from rfl] at b
  go_in
  go_wp2_with fail;go_ret;exact⟨rfl,d.o⟩
 ·have b:=fun w=>iQ 4 (by omega) w
  rw [show ((4:Nat):Int)=(4:Int) from rfl] at b
  go_in
  go_wp2_with fail;go_ret;exact⟨rfl,d.o⟩
 ·have b:=fun w=>iQ 5 (by omega) w
  rw [show ((5:Nat):Int)=(5:Int) from rfl] at b
  go_in
  go_wp2_with fail;go_ret;exact⟨rfl,d.o⟩
 ·have b:=fun w=>iQ 6 (by omega) w
  rw [show ((6:Nat):Int)=(6:Int) from rfl] at b
  go_in
  go_wp2_with fail;go_ret;exact⟨rfl,d.o⟩
 ·have b:=fun w=>iQ 7 (by omega) w
  rw [show ((7:Nat):Int)=(7:Int) from rfl] at b
  go_in
  go_wp2_with fail;go_ret;exact⟨rfl,d.o⟩
 ·have b:=fun w=>iQ 8 (by omega) w
  rw [show ((8:Nat):Int)=(8:Int) from rfl] at b
  go_in
  go_wp2_with fail;go_ret;exact⟨rfl,d.o⟩
 ·have b:=fun w=>iQ 9 (by omega) w
  rw [show ((9:Nat):Int)=(9:Int) from rfl] at b
  go_in
  go_wp2_with fail;go_ret;exact⟨rfl,d.o⟩
 ·have b:=fun w=>iQ 10 (by omega) w
  rw [show ((10:Nat):Int)=(10:Int) from rfl] at b
  go_in
  go_wp2_with fail;go_ret;exact⟨rfl,d.o⟩
 ·have b:=fun w=>iQ 11 (by omega) w
  rw [show ((11:Nat):Int)=(11:Int) from rfl] at b
  go_in
  go_wp2_with fail;go_ret;exact⟨rfl,d.o⟩
 ·have b:=fun w=>iQ 12 (by omega) w
  rw [show ((12:Nat):Int)=(12:Int) from rfl] at b
  go_in
  go_wp2_with fail;go_ret;exact⟨rfl,d.o⟩
theorem Me (t:Bs)(n:Int)(v:Value)(a:Int)(w:World)(g:n=0∨n=1)(hv:∃ A n c,v=.slice A n c) :
  Calls Tryz.prog 33 #[.agg #[.int .u8 2,.string (aM t),.int .i64 n,v,.int .i64 a]] w fun e h=>e=.returned (.string (aM (markT ⟨2,t,n,[],a⟩)))∧Below w.heap.size w h:=by
 obtain⟨A,m,c,rfl⟩:=hv;have f:=O (ah (Below.refl w.heap.size w) (aaJ _) (o:=.cells #[.int .u8 2,.string (aM t),.int .i64 n,.slice A m c,.int .i64 a] 50));rcases g with rfl | rfl
 ·have b:=fun w=>yP 0 (by omega) w
  rw [show ((0:Nat):Int)=(0:Int) from rfl] at b
  have d:bits BinOp.and IntKind.i64 0 1=0:=by decide
  go_in
  go_wp2_with fail;go_ret;exact⟨rfl,f.o⟩
 ·have b:=fun w=>yP 1 (by omega) w
  rw [show ((1:Nat):Int)=(1:Int) from rfl] at b
  have d:bits BinOp.and IntKind.i64 1 1=1:=by decide
  go_in
  go_wp2_with fail;go_ret;exact⟨rfl,f.o⟩
theorem Nv (w:World):(zeroValue 9).run Tryz.prog w=.ok (.string ⟨#[]⟩) w:=by kernel_rfl
theorem mi0 (W:World):(Instr.mapUpdate 91 (.map (some W.heap.size)) (.int .u8 40) (.string ⟨#[99,104,111,111,115,101]⟩)).run Tryz.prog (W.alloc (.map #[] 0))=.ok () (W.alloc (.map (oQ [(40,.string ⟨#[99,104,111,111,115,101]⟩)] 0).toArray 1)):=jo 91 9 Tryz.underlying91 W [] 40 (.string ⟨#[99,104,111,111,115,101]⟩) (by decide +kernel)
theorem mi1 (W:World):(Instr.mapUpdate 91 (.map (some W.heap.size)) (.int .u8 41) (.string ⟨#[116,121,112,101]⟩)).run Tryz.prog (W.alloc (.map (oQ [(40,.string ⟨#[99,104,111,111,115,101]⟩)] 0).toArray 1))=.ok () (W.alloc (.map (oQ [(40,.string ⟨#[99,104,111,111,115,101]⟩),(41,.string ⟨#[116,121,112,101]⟩)] 0).toArray 2)):=jo 91 9 Tryz.underlying91 W [(40,.string ⟨#[99,104,111,111,115,101]⟩)] 41 (.string ⟨#[116,121,112,101]⟩) (by decide +kernel)
theorem mi2 (W:World):(Instr.mapUpdate 91 (.map (some W.heap.size)) (.int .u8 42) (.string ⟨#[102,117,110]⟩)).run Tryz.prog (W.alloc (.map (oQ [(40,.string ⟨#[99,104,111,111,115,101]⟩),(41,.string ⟨#[116,121,112,101]⟩)] 0).toArray 2))=.ok () (W.alloc (.map (oQ [(40,.string ⟨#[99,104,111,111,115,101]⟩),(41,.string ⟨#[116,121,112,101]⟩),(42,.string ⟨#[102,117,110]⟩)] 0).toArray 3)):=jo 91 9 Tryz.underlying91 W [(40,.string ⟨#[99,104,111,111,115,101]⟩),(41,.string ⟨#[116,121,112,101]⟩)] 42 (.string ⟨#[102,117,110]⟩) (by decide +kernel)
theorem mi3 (W:World):(Instr.mapUpdate 91 (.map (some W.heap.size)) (.int .u8 44) (.string ⟨#[111,98,115,101,114,118,101]⟩)).run Tryz.prog (W.alloc (.map (oQ [(40,.string ⟨#[99,104,111,111,115,101]⟩),(41,.string ⟨#[116,121,112,101]⟩),(42,.string ⟨#[102,117,110]⟩)] 0).toArray 3))=.ok () (W.alloc (.map (oQ [(40,.string ⟨#[99,104,111,111,115,101]⟩),(41,.string ⟨#[116,121,112,101]⟩),(42,.string ⟨#[102,117,110]⟩),(44,.string ⟨#[111,98,115,101,114,118,101]⟩)] 0).toArray 4)):=jo 91 9 Tryz.underlying91 W [(40,.string ⟨#[99,104,111,111,115,101]⟩),(41,.string ⟨#[116,121,112,101]⟩),(42,.string ⟨#[102,117,110]⟩)] 44 (.string ⟨#[111,98,115,101,114,118,101]⟩) (by decide +kernel)
theorem mi4 (W:World):(Instr.mapUpdate 91 (.map (some W.heap.size)) (.int .u8 45) (.string ⟨#[114,101,116,114,97,99,116]⟩)).run Tryz.prog (W.alloc (.map (oQ [(40,.string ⟨#[99,104,111,111,115,101]⟩),(41,.string ⟨#[116,121,112,101]⟩),(42,.string ⟨#[102,117,110]⟩),(44,.string ⟨#[111,98,115,101,114,118,101]⟩)] 0).toArray 4))=.ok () (W.alloc (.map (oQ [(40,.string ⟨#[99,104,111,111,115,101]⟩),(41,.string ⟨#[116,121,112,101]⟩),(42,.string ⟨#[102,117,110]⟩),(44,.string ⟨#[111,98,115,101,114,118,101]⟩),(45,.string ⟨#[114,101,116,114,97,99,116]⟩)] 0).toArray 5)):=jo 91 9 Tryz.underlying91 W [(40,.string ⟨#[99,104,111,111,115,101]⟩),(41,.string ⟨#[116,121,112,101]⟩),(42,.string ⟨#[102,117,110]⟩),(44,.string ⟨#[111,98,115,101,114,118,101]⟩)] 45 (.string ⟨#[114,101,116,114,97,99,116]⟩) (by decide +kernel)
theorem mi5 (W:World):(Instr.mapUpdate 91 (.map (some W.heap.size)) (.int .u8 46) (.string ⟨#[97,115,107]⟩)).run Tryz.prog (W.alloc (.map (oQ [(40,.string ⟨#[99,104,111,111,115,101]⟩),(41,.string ⟨#[116,121,112,101]⟩),(42,.string ⟨#[102,117,110]⟩),(44,.string ⟨#[111,98,115,101,114,118,101]⟩),(45,.string ⟨#[114,101,116,114,97,99,116]⟩)] 0).toArray 5))=.ok () (W.alloc (.map (oQ [(40,.string ⟨#[99,104,111,111,115,101]⟩),(41,.string ⟨#[116,121,112,101]⟩),(42,.string ⟨#[102,117,110]⟩),(44,.string ⟨#[111,98,115,101,114,118,101]⟩),(45,.string ⟨#[114,101,116,114,97,99,116]⟩),(46,.string ⟨#[97,115,107]⟩)] 0).toArray 6)):=jo 91 9 Tryz.underlying91 W [(40,.string ⟨#[99,104,111,111,115,101]⟩),(41,.string ⟨#[116,121,112,101]⟩),(42,.string ⟨#[102,117,110]⟩),(44,.string ⟨#[111,98,115,101,114,118,101]⟩),(45,.string ⟨#[114,101,116,114,97,99,116]⟩)] 46 (.string ⟨#[97,115,107]⟩) (by decide +kernel)
theorem Mk (K:Nat)(t:Bs)(n:Int)(v:Value)(a:Int)(w:World)(B:K=40∨K=41∨K=42∨K=44∨K=45∨K=46)(hv:∃ A n c,v=.slice A n c) :
  Calls Tryz.prog 33 #[.agg #[.int .u8 (K:Int),.string (aM t),.int .i64 n,v,.int .i64 a]] w fun e D=>e=.returned (.string (aM (markT ⟨K,t,n,[],a⟩)))∧Below w.heap.size w D:=by
 obtain⟨A,m,c,rfl⟩:=hv;have b:=O (ah (Below.refl w.heap.size w) (aaJ _) (o:=.cells #[.int .u8 (K:Int),.string (aM t),.int .i64 n,.slice A m c,.int .i64 a] 50));have d:=O (aC.new w 50 #[.int .u8 (K:Int),.string (aM t),.int .i64 n,.slice A m c,.int .i64 a]);have C:=@run_makeMap Tryz.prog;have h:=O fun (W:World) (x:Nat)=>aao 91 9 (.string ⟨#[]⟩) Tryz.underlying91 (W.alloc (.map (oQ [(40,.string ⟨#[99,104,111,111,115,101]⟩),(41,.string ⟨#[116,121,112,101]⟩),(42,.string ⟨#[102,117,110]⟩),(44,.string ⟨#[111,98,115,101,114,118,101]⟩),(45,.string ⟨#[114,101,116,114,97,99,116]⟩),(46,.string ⟨#[97,115,107]⟩)] 0).toArray 6)) (Nv _) [(40,.string ⟨#[99,104,111,111,115,101]⟩),(41,.string ⟨#[116,121,112,101]⟩),(42,.string ⟨#[102,117,110]⟩),(44,.string ⟨#[111,98,115,101,114,118,101]⟩),(45,.string ⟨#[114,101,116,114,97,99,116]⟩),(46,.string ⟨#[97,115,107]⟩)] W.heap.size 6 (heap_alloc_new W _) x
 rcases B with rfl | rfl | rfl | rfl | rfl | rfl
 ·go_in
  go_upto_region 31 with (fail)
  generalize w.alloc (.cells #[.int .u8 ((40:Nat):Int),.string (aM t),.int .i64 n,.slice A m c,.int .i64 a] 50)=W at b d ⊢
  have g:=O (d.o.alloc (.map (oQ [(40,.string ⟨#[99,104,111,111,115,101]⟩),(41,.string ⟨#[116,121,112,101]⟩),(42,.string ⟨#[102,117,110]⟩),(44,.string ⟨#[111,98,115,101,114,118,101]⟩),(45,.string ⟨#[114,101,116,114,97,99,116]⟩),(46,.string ⟨#[97,115,107]⟩)] 0).toArray 6));have y:=g.o.cell 0;have j:=mi0 W;have k:=mi1 W;have l:=mi2 W;have q:=mi3 W;have r:=mi4 W;have u:=mi5 W;have i:(Instr.lookup 91 (.map (some W.heap.size)) (.int .u8 40) false).run Tryz.prog _=.ok (.string ⟨#[99,104,111,111,115,101]⟩) _:=h.o W 40;have f:=O (ah b.o b.o.size (o:=.map (oQ [(40,.string ⟨#[99,104,111,111,115,101]⟩),(41,.string ⟨#[116,121,112,101]⟩),(42,.string ⟨#[102,117,110]⟩),(44,.string ⟨#[111,98,115,101,114,118,101]⟩),(45,.string ⟨#[114,101,116,114,97,99,116]⟩),(46,.string ⟨#[97,115,107]⟩)] 0).toArray 6));go_wp2_with fail;go_ret;exact⟨rfl,f.o⟩
 ·go_in
  go_upto_region 31 with (fail)
  generalize w.alloc (.cells #[.int .u8 ((41:Nat):Int),.string (aM t),.int .i64 n,.slice A m c,.int .i64 a] 50)=W at b d ⊢
  have g:=O (d.o.alloc (.map (oQ [(40,.string ⟨#[99,104,111,111,115,101]⟩),(41,.string ⟨#[116,121,112,101]⟩),(42,.string ⟨#[102,117,110]⟩),(44,.string ⟨#[111,98,115,101,114,118,101]⟩),(45,.string ⟨#[114,101,116,114,97,99,116]⟩),(46,.string ⟨#[97,115,107]⟩)] 0).toArray 6));have y:=g.o.cell 0;have j:=mi0 W;have k:=mi1 W;have l:=mi2 W;have q:=mi3 W;have r:=mi4 W;have u:=mi5 W;have i:(Instr.lookup 91 (.map (some W.heap.size)) (.int .u8 41) false).run Tryz.prog _=.ok (.string ⟨#[116,121,112,101]⟩) _:=h.o W 41;have f:=O (ah b.o b.o.size (o:=.map (oQ [(40,.string ⟨#[99,104,111,111,115,101]⟩),(41,.string ⟨#[116,121,112,101]⟩),(42,.string ⟨#[102,117,110]⟩),(44,.string ⟨#[111,98,115,101,114,118,101]⟩),(45,.string ⟨#[114,101,116,114,97,99,116]⟩),(46,.string ⟨#[97,115,107]⟩)] 0).toArray 6));go_wp2_with fail;go_ret;exact⟨rfl,f.o⟩
 ·go_in
  go_upto_region 31 with (fail)
  generalize w.alloc (.cells #[.int .u8 ((42:Nat):Int),.string (aM t),.int .i64 n,.slice A m c,.int .i64 a] 50)=W at b d ⊢
  have g:=O (d.o.alloc (.map (oQ [(40,.string ⟨#[99,104,111,111,115,101]⟩),(41,.string ⟨#[116,121,112,101]⟩),(42,.string ⟨#[102,117,110]⟩),(44,.string ⟨#[111,98,115,101,114,118,101]⟩),(45,.string ⟨#[114,101,116,114,97,99,116]⟩),(46,.string ⟨#[97,115,107]⟩)] 0).toArray 6));have y:=g.o.cell 0;have j:=mi0 W;have k:=mi1 W;have l:=mi2 W;have q:=mi3 W;have r:=mi4 W;have u:=mi5 W;have i:(Instr.lookup 91 (.map (some W.heap.size)) (.int .u8 42) false).run Tryz.prog _=.ok (.string ⟨#[102,117,110]⟩) _:=h.o W 42;have f:=O (ah b.o b.o.size (o:=.map (oQ [(40,.string ⟨#[99,104,111,111,115,101]⟩),(41,.string ⟨#[116,121,112,101]⟩),(42,.string ⟨#[102,117,110]⟩),(44,.string ⟨#[111,98,115,101,114,118,101]⟩),(45,.string ⟨#[114,101,116,114,97,99,116]⟩),(46,.string ⟨#[97,115,107]⟩)] 0).toArray 6));go_wp2_with fail;go_ret;exact⟨rfl,f.o⟩
 ·go_in
  go_upto_region 31 with (fail)
  generalize w.alloc (.cells #[.int .u8 ((44:Nat):Int),.string (aM t),.int .i64 n,.slice A m c,.int .i64 a] 50)=W at b d ⊢
  have g:=O (d.o.alloc (.map (oQ [(40,.string ⟨#[99,104,111,111,115,101]⟩),(41,.string ⟨#[116,121,112,101]⟩),(42,.string ⟨#[102,117,110]⟩),(44,.string ⟨#[111,98,115,101,114,118,101]⟩),(45,.string ⟨#[114,101,116,114,97,99,116]⟩),(46,.string ⟨#[97,115,107]⟩)] 0).toArray 6));have y:=g.o.cell 0;have j:=mi0 W;have k:=mi1 W;have l:=mi2 W;have q:=mi3 W;have r:=mi4 W;have u:=mi5 W;have i:(Instr.lookup 91 (.map (some W.heap.size)) (.int .u8 44) false).run Tryz.prog _=.ok (.string ⟨#[111,98,115,101,114,118,101]⟩) _:=h.o W 44;have f:=O (ah b.o b.o.size (o:=.map (oQ [(40,.string ⟨#[99,104,111,111,115,101]⟩),(41,.string ⟨#[116,121,112,101]⟩),(42,.string ⟨#[102,117,110]⟩),(44,.string ⟨#[111,98,115,101,114,118,101]⟩),(45,.string ⟨#[114,101,116,114,97,99,116]⟩),(46,.string ⟨#[97,115,107]⟩)] 0).toArray 6));go_wp2_with fail;go_ret;exact⟨rfl,f.o⟩
 ·go_in
  go_upto_region 31 with (fail)
  generalize w.alloc (.cells #[.int .u8 ((45:Nat):Int),.string (aM t),.int .i64 n,.slice A m c,.int .i64 a] 50)=W at b d ⊢
  have g:=O (d.o.alloc (.map (oQ [(40,.string ⟨#[99,104,111,111,115,101]⟩),(41,.string ⟨#[116,121,112,101]⟩),(42,.string ⟨#[102,117,110]⟩),(44,.string ⟨#[111,98,115,101,114,118,101]⟩),(45,.string ⟨#[114,101,116,114,97,99,116]⟩),(46,.string ⟨#[97,115,107]⟩)] 0).toArray 6));have y:=g.o.cell 0;have j:=mi0 W;have k:=mi1 W;have l:=mi2 W;have q:=mi3 W;have r:=mi4 W;have u:=mi5 W;have i:(Instr.lookup 91 (.map (some W.heap.size)) (.int .u8 45) false).run Tryz.prog _=.ok (.string ⟨#[114,101,116,114,97,99,116]⟩) _:=h.o W 45;have f:=O (ah b.o b.o.size (o:=.map (oQ [(40,.string ⟨#[99,104,111,111,115,101]⟩),(41,.string ⟨#[116,121,112,101]⟩),(42,.string ⟨#[102,117,110]⟩),(44,.string ⟨#[111,98,115,101,114,118,101]⟩),(45,.string ⟨#[114,101,116,114,97,99,116]⟩),(46,.string ⟨#[97,115,107]⟩)] 0).toArray 6));go_wp2_with fail;go_ret;exact⟨rfl,f.o⟩
 ·go_in
  go_upto_region 31 with (fail)
  generalize w.alloc (.cells #[.int .u8 ((46:Nat):Int),.string (aM t),.int .i64 n,.slice A m c,.int .i64 a] 50)=W at b d ⊢
  have g:=O (d.o.alloc (.map (oQ [(40,.string ⟨#[99,104,111,111,115,101]⟩),(41,.string ⟨#[116,121,112,101]⟩),(42,.string ⟨#[102,117,110]⟩),(44,.string ⟨#[111,98,115,101,114,118,101]⟩),(45,.string ⟨#[114,101,116,114,97,99,116]⟩),(46,.string ⟨#[97,115,107]⟩)] 0).toArray 6));have y:=g.o.cell 0;have j:=mi0 W;have k:=mi1 W;have l:=mi2 W;have q:=mi3 W;have r:=mi4 W;have u:=mi5 W;have i:(Instr.lookup 91 (.map (some W.heap.size)) (.int .u8 46) false).run Tryz.prog _=.ok (.string ⟨#[97,115,107]⟩) _:=h.o W 46;have f:=O (ah b.o b.o.size (o:=.map (oQ [(40,.string ⟨#[99,104,111,111,115,101]⟩),(41,.string ⟨#[116,121,112,101]⟩),(42,.string ⟨#[102,117,110]⟩),(44,.string ⟨#[111,98,115,101,114,118,101]⟩),(45,.string ⟨#[114,101,116,114,97,99,116]⟩),(46,.string ⟨#[97,115,107]⟩)] 0).toArray 6));go_wp2_with fail;go_ret;exact⟨rfl,f.o⟩
theorem QD (t:Bs)(n:Int)(v:Value)(a:Int)(w:World)(f:Pow w)(h0:-9999≤n)(h1:n≤9999)(hv:∃ A n c,v=.slice A n c) :
  Calls Tryz.prog 33 #[.agg #[.int .u8 1,.string (aM t),.int .i64 n,v,.int .i64 a]] w fun e r=>e=.returned (.string (aM ((Go.Lib.itoa n).take 1)))∧Below w.heap.size w r:=by
 obtain⟨A,m,c,rfl⟩:=hv;have b:=O (ah (Below.refl w.heap.size w) (aaJ _) (o:=.cells #[.int .u8 1,.string (aM t),.int .i64 n,.slice A m c,.int .i64 a] 50));have i:=O f;obtain⟨X,d⟩:∃ X,X=Go.Lib.itoa n:=⟨_,rfl⟩
 have u:1≤X.length:=by
  rw [d];unfold Go.Lib.itoa;split
  ·simp
  ·have h3:=(JZ (n:=n.toNat) (by omega));rw [aaS] at h3
   have h4:=List.length_pos_iff.2 (Kw h3.1).ne;rw [show ((n.toNat:Nat):Int)=n by omega] at h4
   unfold Go.Lib.itoa at h4
   rw [if_neg (by omega)] at h4
   exact h4
 have j:=O d;rw [← d];clear f d;go_in
 go_wp2_with fail;refine (Tryz.strconv_Itoa n (by omega) (by omega) _ (show Pow _ from fun g l=>i.o g (b.o.trans (l.mono b.o.size))).here).mono ?_;rintro e g⟨rfl,k,q,rfl⟩;have h:=O (b.o.trans ((EP (w.alloc (.cells #[.int .u8 1,.string (aM t),.int .i64 n,.slice A m c,.int .i64 a] 50)) k q).mono b.o.size));rw [show (⟨(Go.Lib.itoa n).toArray⟩:ByteArray)=aM X by rw [j.o];rfl];have x:(0:Int)≤(1:Int):=by decide
 have y:(1:Int)≤(X.length:Int):=by omega
 go_wp2_with fail;go_ret;exact⟨by simp,h.o⟩
end Go.Proofs.YthepmkjggfijoaaGreatDoor
namespace Go.Proofs.YthepmkjggfijoaaGreatDoor
open Go.RowKit Mist
theorem QC {T:Tr}(F:dX T){x:Nd}{i:Nat}(m:T.nodes[i]? = some x)(v:Value)(w:World)(l:Pow w)(hv:∃ A n c,v=.slice A n c) :
  Calls Tryz.prog 33 #[.agg #[.int .u8 (x.kind:Int),.string (aM x.text),.int .i64 x.n,v,.int .i64 x.at_]] w fun e r=>e=.returned (.string (aM (sP x)))∧Below w.heap.size w r:=by
 have h:=F.ok i x m;unfold uP okB at h
 simp only [aaS] at h
 obtain⟨⟨⟨⟨⟨⟨h1,_⟩,_⟩,_⟩,g⟩,_⟩,_⟩:=h;obtain⟨kd,tx,b,k,at_⟩:=x;simp only at h1 g ⊢
 have u:(1≤kd∧kd≤26)∨(30≤kd∧kd≤34)∨(40≤kd∧kd≤46):=by
  simp [lq,iH,eP] at h1;omega
 have d:∀ {K:Nat} {t:Bs} {n:Int} {k:List Int} {a:Int},K ≠ 1→sP ⟨K,t,n,k,a⟩=markT ⟨K,t,n,[],a⟩:=fun h=>by unfold sP;rw [if_neg h];rfl
 by_cases j:kd=1
 ·subst j;have f:-9999≤b∧b≤9999:=by simpa [gu,within] using g
  exact QD tx b v at_ w l f.1 f.2 hv
 rw [d j];by_cases q:kd=2
 ·subst q;have f:0≤b∧b≤1:=by simpa [gu,within] using g
  exact Me tx b v at_ w (by omega) hv
 by_cases y:6≤kd∧kd≤18
 ·exact QI kd tx b v at_ w (by omega) hv
 by_cases B:40≤kd∧kd ≠ 43
 ·exact Mk kd tx b v at_ w (by omega) hv
 ·exact GY kd tx b v at_ w (by omega) hv
end Go.Proofs.YthepmkjggfijoaaGreatDoor
