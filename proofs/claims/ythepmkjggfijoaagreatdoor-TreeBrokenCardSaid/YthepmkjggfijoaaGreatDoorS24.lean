/-
  A part of the proof.
-/
import Derived.Test.YthepmkjggfijoaaGreatDoorSA
import Derived.Deep.Cut
import Derived.Deep.RegionHeld3
import Derived.Deep.RegionWith
import Derived.Test.YthepmkjggfijoaaGreatDoorS22
set_option linter.all false
set_option maxRecDepth 100000
set_option maxHeartbeats 4000000
namespace Go.Proofs.YthepmkjggfijoaaGreatDoor
open Go.RowKit Mist
attribute [local go_sem] aj aH aS aB ak
theorem WG (x:Bs)(n a:Int)(A:Option Addr)(H C:Nat)(w:World):Calls Tryz.prog 103 #[.agg #[.int .u8 21,.string (aM x),.int .i64 n,.slice A H C,.int .i64 a]] w (eB (Mist.shapeOf 21 n) w):=by
 go_in
 go_wp2_with fail;refine (aG _ _).mono ?_;rintro e w1⟨rfl,f⟩;go_wp2_with fail;refine (aG _ _).mono ?_;rintro e S⟨rfl,g⟩;go_wp2_with fail;refine (aG _ _).mono ?_;rintro e U⟨rfl,h⟩;have j:=O (fP f g h);have E:=j.o.1;clear f g h;go_upto_region 5 with (fail)
 obtain⟨I,r,b,t,F,R,D,J,-,-,-,i,-⟩:=j.o.2;rw [r];clear r E j;have L:=i.o.cell 0;have M:=i.o.cell 1;have N:=i.o.cell 2;have K:=i.o.lt;have P:=t.o.cell 0;have Q:=t.o.cell 2;have k:=b.o.cell 0;have l:=b.o.cell 1;have m:=b.o.cell 2;have q:=b.o.cell 3;have r0:=b.o.frozen 0;have r1:=b.o.frozen 1;have r2:=b.o.frozen 2;have u:=b.o.frozen 3;go_wp2_with fail;refine (mZ _ _ _ _).mono ?_;rintro e y⟨rfl,c⟩;have B:=O (gF c);have d:=O (show aC y (w.heap.size+1) 119 #[.bool false,.int .i64 0,.int .i64 0,.slice none 0 0] from aC.below (by repeat (first|(with_reducible exact b.o)|(with_reducible refine aC.alloc ?_ _))) c (by first | omega|(simp;omega)));have G:=O (show Below w.heap.size w y from Below.trans (by repeat (first|(with_reducible exact F.o)|(with_reducible refine dx ?_ ?_)|(with_reducible refine ah ?_ ?_) | omega|(simp;omega))) (c.mono (by first | omega|(simp;omega))));clear c;clear k l m q r0 r1 r2 u;have k:=d.o.cell 0;have l:=d.o.cell 1;have m:=d.o.cell 2;have q:=d.o.cell 3;have r0:=d.o.frozen 0;have r1:=d.o.frozen 1;have r2:=d.o.frozen 2;have u:=d.o.frozen 3;go_wp2_with fail;refine bodyPost_ret (v:=.tuple #[.agg #[.bool true,.int .i64 0,.int .i64 0,.slice (some ⟨I.heap.size,0,none⟩) 1 1],.bool true]) (by simp [results,Tryz.f103,go_sem,k,l,m,q]) rfl ?_
 refine⟨_,_,_,_,_,_,_,rfl,?_,rfl,rfl,rfl,rfl,rfl,aaJ _,?_⟩
 ·repeat (first|(with_reducible exact G.o)|(with_reducible refine dx ?_ ?_)|(with_reducible refine ah ?_ ?_) | omega|(simp;omega))
 ·refine dS.one (T:=152) ?_
  repeat (first|(with_reducible refine aC.far ?_ ?_ _) | exact B.o|(simp;omega))
theorem WH (x:Bs)(n a:Int)(A:Option Addr)(H C:Nat)(w:World):Calls Tryz.prog 103 #[.agg #[.int .u8 22,.string (aM x),.int .i64 n,.slice A H C,.int .i64 a]] w (eB (Mist.shapeOf 22 n) w):=by
 go_in
 go_wp2_with fail;refine (aG _ _).mono ?_;rintro e w1⟨rfl,f⟩;go_wp2_with fail;refine (aG _ _).mono ?_;rintro e S⟨rfl,g⟩;go_wp2_with fail;refine (aG _ _).mono ?_;rintro e U⟨rfl,h⟩;have j:=O (fP f g h);have E:=j.o.1;clear f g h;go_upto_region 5 with (fail)
 obtain⟨I,r,b,t,F,R,D,J,i,-,-,-,-⟩:=j.o.2;rw [r];clear r E j;have L:=i.o.cell 0;have M:=i.o.cell 1;have N:=i.o.cell 2;have K:=i.o.lt;have P:=t.o.cell 0;have Q:=t.o.cell 2;have k:=b.o.cell 0;have l:=b.o.cell 1;have m:=b.o.cell 2;have q:=b.o.cell 3;have r0:=b.o.frozen 0;have r1:=b.o.frozen 1;have r2:=b.o.frozen 2;have u:=b.o.frozen 3;go_wp2_with fail;refine (mZ _ _ _ _).mono ?_;rintro e y⟨rfl,c⟩;have B:=O (gF c);have d:=O (show aC y (w.heap.size+1) 119 #[.bool false,.int .i64 0,.int .i64 0,.slice none 0 0] from aC.below (by repeat (first|(with_reducible exact b.o)|(with_reducible refine aC.alloc ?_ _))) c (by first | omega|(simp;omega)));have G:=O (show Below w.heap.size w y from Below.trans (by repeat (first|(with_reducible exact F.o)|(with_reducible refine dx ?_ ?_)|(with_reducible refine ah ?_ ?_) | omega|(simp;omega))) (c.mono (by first | omega|(simp;omega))));clear c;clear k l m q r0 r1 r2 u;have k:=d.o.cell 0;have l:=d.o.cell 1;have m:=d.o.cell 2;have q:=d.o.cell 3;have r0:=d.o.frozen 0;have r1:=d.o.frozen 1;have r2:=d.o.frozen 2;have u:=d.o.frozen 3;go_wp2_with fail;refine bodyPost_ret (v:=.tuple #[.agg #[.bool true,.int .i64 0,.int .i64 0,.slice (some ⟨I.heap.size,0,none⟩) 1 1],.bool true]) (by simp [results,Tryz.f103,go_sem,k,l,m,q]) rfl ?_
 refine⟨_,_,_,_,_,_,_,rfl,?_,rfl,rfl,rfl,rfl,rfl,aaJ _,?_⟩
 ·repeat (first|(with_reducible exact G.o)|(with_reducible refine dx ?_ ?_)|(with_reducible refine ah ?_ ?_) | omega|(simp;omega))
 ·refine dS.one (T:=152) ?_
  repeat (first|(with_reducible refine aC.far ?_ ?_ _) | exact B.o|(simp;omega))
theorem WK (x:Bs)(n a:Int)(A:Option Addr)(H C:Nat)(w:World):Calls Tryz.prog 103 #[.agg #[.int .u8 25,.string (aM x),.int .i64 n,.slice A H C,.int .i64 a]] w (eB (Mist.shapeOf 25 n) w):=by
 go_in
 go_wp2_with fail;refine (aG _ _).mono ?_;rintro e w1⟨rfl,f⟩;go_wp2_with fail;refine (aG _ _).mono ?_;rintro e S⟨rfl,g⟩;go_wp2_with fail;refine (aG _ _).mono ?_;rintro e U⟨rfl,h⟩;have j:=O (fP f g h);have E:=j.o.1;clear f g h;go_upto_region 5 with (fail)
 obtain⟨I,r,b,t,F,R,D,J,i,-,-,-,-⟩:=j.o.2;rw [r];clear r E j;have L:=i.o.cell 0;have M:=i.o.cell 1;have N:=i.o.cell 2;have K:=i.o.lt;have P:=t.o.cell 0;have Q:=t.o.cell 2;have k:=b.o.cell 0;have l:=b.o.cell 1;have m:=b.o.cell 2;have q:=b.o.cell 3;have r0:=b.o.frozen 0;have r1:=b.o.frozen 1;have r2:=b.o.frozen 2;have u:=b.o.frozen 3;go_wp2_with fail;refine (mZ _ _ _ _).mono ?_;rintro e y⟨rfl,c⟩;have B:=O (gF c);have d:=O (show aC y (w.heap.size+1) 119 #[.bool false,.int .i64 0,.int .i64 0,.slice none 0 0] from aC.below (by repeat (first|(with_reducible exact b.o)|(with_reducible refine aC.alloc ?_ _))) c (by first | omega|(simp;omega)));have G:=O (show Below w.heap.size w y from Below.trans (by repeat (first|(with_reducible exact F.o)|(with_reducible refine dx ?_ ?_)|(with_reducible refine ah ?_ ?_) | omega|(simp;omega))) (c.mono (by first | omega|(simp;omega))));clear c;clear k l m q r0 r1 r2 u;have k:=d.o.cell 0;have l:=d.o.cell 1;have m:=d.o.cell 2;have q:=d.o.cell 3;have r0:=d.o.frozen 0;have r1:=d.o.frozen 1;have r2:=d.o.frozen 2;have u:=d.o.frozen 3;go_wp2_with fail;refine bodyPost_ret (v:=.tuple #[.agg #[.bool true,.int .i64 0,.int .i64 0,.slice (some ⟨I.heap.size,0,none⟩) 1 1],.bool true]) (by simp [results,Tryz.f103,go_sem,k,l,m,q]) rfl ?_
 refine⟨_,_,_,_,_,_,_,rfl,?_,rfl,rfl,rfl,rfl,rfl,aaJ _,?_⟩
 ·repeat (first|(with_reducible exact G.o)|(with_reducible refine dx ?_ ?_)|(with_reducible refine ah ?_ ?_) | omega|(simp;omega))
 ·refine dS.one (T:=152) ?_
  repeat (first|(with_reducible refine aC.far ?_ ?_ _) | exact B.o|(simp;omega))
theorem WW (x:Bs)(n a:Int)(A:Option Addr)(H C:Nat)(w:World):Calls Tryz.prog 103 #[.agg #[.int .u8 43,.string (aM x),.int .i64 n,.slice A H C,.int .i64 a]] w (eB (Mist.shapeOf 43 n) w):=by
 go_in
 go_wp2_with fail;refine (aG _ _).mono ?_;rintro e w1⟨rfl,f⟩;go_wp2_with fail;refine (aG _ _).mono ?_;rintro e S⟨rfl,g⟩;go_wp2_with fail;refine (aG _ _).mono ?_;rintro e U⟨rfl,h⟩;have j:=O (fP f g h);have E:=j.o.1;clear f g h;go_upto_region 5 with (fail)
 obtain⟨I,r,b,t,F,R,D,J,i,-,-,-,-⟩:=j.o.2;rw [r];clear r E j;have L:=i.o.cell 0;have M:=i.o.cell 1;have N:=i.o.cell 2;have K:=i.o.lt;have P:=t.o.cell 0;have Q:=t.o.cell 2;have k:=b.o.cell 0;have l:=b.o.cell 1;have m:=b.o.cell 2;have q:=b.o.cell 3;have r0:=b.o.frozen 0;have r1:=b.o.frozen 1;have r2:=b.o.frozen 2;have u:=b.o.frozen 3;go_wp2_with fail;refine (mZ _ _ _ _).mono ?_;rintro e y⟨rfl,c⟩;have B:=O (gF c);have d:=O (show aC y (w.heap.size+1) 119 #[.bool false,.int .i64 0,.int .i64 0,.slice none 0 0] from aC.below (by repeat (first|(with_reducible exact b.o)|(with_reducible refine aC.alloc ?_ _))) c (by first | omega|(simp;omega)));have G:=O (show Below w.heap.size w y from Below.trans (by repeat (first|(with_reducible exact F.o)|(with_reducible refine dx ?_ ?_)|(with_reducible refine ah ?_ ?_) | omega|(simp;omega))) (c.mono (by first | omega|(simp;omega))));clear c;clear k l m q r0 r1 r2 u;have k:=d.o.cell 0;have l:=d.o.cell 1;have m:=d.o.cell 2;have q:=d.o.cell 3;have r0:=d.o.frozen 0;have r1:=d.o.frozen 1;have r2:=d.o.frozen 2;have u:=d.o.frozen 3;go_wp2_with fail;refine bodyPost_ret (v:=.tuple #[.agg #[.bool true,.int .i64 0,.int .i64 0,.slice (some ⟨I.heap.size,0,none⟩) 1 1],.bool true]) (by simp [results,Tryz.f103,go_sem,k,l,m,q]) rfl ?_
 refine⟨_,_,_,_,_,_,_,rfl,?_,rfl,rfl,rfl,rfl,rfl,aaJ _,?_⟩
 ·repeat (first|(with_reducible exact G.o)|(with_reducible refine dx ?_ ?_)|(with_reducible refine ah ?_ ?_) | omega|(simp;omega))
 ·refine dS.one (T:=152) ?_
  repeat (first|(with_reducible refine aC.far ?_ ?_ _) | exact B.o|(simp;omega))
theorem WX (x:Bs)(n a:Int)(A:Option Addr)(H C:Nat)(w:World):Calls Tryz.prog 103 #[.agg #[.int .u8 44,.string (aM x),.int .i64 n,.slice A H C,.int .i64 a]] w (eB (Mist.shapeOf 44 n) w):=by
 go_in
 go_wp2_with fail;refine (aG _ _).mono ?_;rintro e w1⟨rfl,f⟩;go_wp2_with fail;refine (aG _ _).mono ?_;rintro e S⟨rfl,g⟩;go_wp2_with fail;refine (aG _ _).mono ?_;rintro e U⟨rfl,h⟩;have j:=O (fP f g h);have E:=j.o.1;clear f g h;go_upto_region 5 with (fail)
 obtain⟨I,r,b,t,F,R,D,J,i,-,-,-,-⟩:=j.o.2;rw [r];clear r E j;have L:=i.o.cell 0;have M:=i.o.cell 1;have N:=i.o.cell 2;have K:=i.o.lt;have P:=t.o.cell 0;have Q:=t.o.cell 2;have k:=b.o.cell 0;have l:=b.o.cell 1;have m:=b.o.cell 2;have q:=b.o.cell 3;have r0:=b.o.frozen 0;have r1:=b.o.frozen 1;have r2:=b.o.frozen 2;have u:=b.o.frozen 3;go_wp2_with fail;refine (mZ _ _ _ _).mono ?_;rintro e y⟨rfl,c⟩;have B:=O (gF c);have d:=O (show aC y (w.heap.size+1) 119 #[.bool false,.int .i64 0,.int .i64 0,.slice none 0 0] from aC.below (by repeat (first|(with_reducible exact b.o)|(with_reducible refine aC.alloc ?_ _))) c (by first | omega|(simp;omega)));have G:=O (show Below w.heap.size w y from Below.trans (by repeat (first|(with_reducible exact F.o)|(with_reducible refine dx ?_ ?_)|(with_reducible refine ah ?_ ?_) | omega|(simp;omega))) (c.mono (by first | omega|(simp;omega))));clear c;clear k l m q r0 r1 r2 u;have k:=d.o.cell 0;have l:=d.o.cell 1;have m:=d.o.cell 2;have q:=d.o.cell 3;have r0:=d.o.frozen 0;have r1:=d.o.frozen 1;have r2:=d.o.frozen 2;have u:=d.o.frozen 3;go_wp2_with fail;refine bodyPost_ret (v:=.tuple #[.agg #[.bool true,.int .i64 0,.int .i64 0,.slice (some ⟨I.heap.size,0,none⟩) 1 1],.bool true]) (by simp [results,Tryz.f103,go_sem,k,l,m,q]) rfl ?_
 refine⟨_,_,_,_,_,_,_,rfl,?_,rfl,rfl,rfl,rfl,rfl,aaJ _,?_⟩
 ·repeat (first|(with_reducible exact G.o)|(with_reducible refine dx ?_ ?_)|(with_reducible refine ah ?_ ?_) | omega|(simp;omega))
 ·refine dS.one (T:=152) ?_
  repeat (first|(with_reducible refine aC.far ?_ ?_ _) | exact B.o|(simp;omega))
theorem WJ (x:Bs)(n a:Int)(y:Option Addr)(G B:Nat)(w:World):Calls Tryz.prog 103 #[.agg #[.int .u8 24,.string (aM x),.int .i64 n,.slice y G B,.int .i64 a]] w (eB (Mist.shapeOf 24 n) w):=by
 go_in
 go_wp2_with fail;refine (aG _ _).mono ?_;rintro e w1⟨rfl,f⟩;go_wp2_with fail;refine (aG _ _).mono ?_;rintro e M⟨rfl,g⟩;go_wp2_with fail;refine (aG _ _).mono ?_;rintro e N⟨rfl,h⟩;have i:=O (fP f g h);have D:=i.o.1;clear f g h;go_upto_region 5 with (fail)
 obtain⟨H,q,b,r,E,L,C,I,-⟩:=i.o.2;rw [q];clear q D i;have J:=r.o.cell 0;have K:=r.o.cell 2;have j:=b.o.cell 0;have k:=b.o.cell 1;have l:=b.o.cell 2;have m:=b.o.cell 3;have r0:=b.o.frozen 0;have r1:=b.o.frozen 1;have r2:=b.o.frozen 2;have t:=b.o.frozen 3;go_wp2_with fail;refine (mZ _ _ _ _).mono ?_;rintro e u⟨rfl,c⟩;have A:=O (gF c);have d:=O (show aC u (w.heap.size+1) 119 #[.bool false,.int .i64 0,.int .i64 0,.slice none 0 0] from aC.below (by repeat (first|(with_reducible exact b.o)|(with_reducible refine aC.alloc ?_ _))) c (by first | omega|(simp;omega)));have F:=O (show Below w.heap.size w u from Below.trans (by repeat (first|(with_reducible exact E.o)|(with_reducible refine dx ?_ ?_)|(with_reducible refine ah ?_ ?_) | omega|(simp;omega))) (c.mono (by first | omega|(simp;omega))));clear c;clear j k l m r0 r1 r2 t;have j:=d.o.cell 0;have k:=d.o.cell 1;have l:=d.o.cell 2;have m:=d.o.cell 3;have r0:=d.o.frozen 0;have r1:=d.o.frozen 1;have r2:=d.o.frozen 2;have t:=d.o.frozen 3;go_wp2_with fail;refine bodyPost_ret (v:=.tuple #[.agg #[.bool true,.int .i64 0,.int .i64 0,.slice (some ⟨H.heap.size,0,none⟩) 1 1],.bool true]) (by simp [results,Tryz.f103,go_sem,j,k,l,m]) rfl ?_
 refine⟨_,_,_,_,_,_,_,rfl,?_,rfl,rfl,rfl,rfl,rfl,aaJ _,?_⟩
 ·repeat (first|(with_reducible exact F.o)|(with_reducible refine dx ?_ ?_)|(with_reducible refine ah ?_ ?_) | omega|(simp;omega))
 ·refine dS.one (T:=152) ?_
  repeat (first|(with_reducible refine aC.far ?_ ?_ _) | exact A.o|(simp;omega))
theorem WU (x:Bs)(n a:Int)(y:Option Addr)(G B:Nat)(w:World):Calls Tryz.prog 103 #[.agg #[.int .u8 41,.string (aM x),.int .i64 n,.slice y G B,.int .i64 a]] w (eB (Mist.shapeOf 41 n) w):=by
 go_in
 go_wp2_with fail;refine (aG _ _).mono ?_;rintro e w1⟨rfl,f⟩;go_wp2_with fail;refine (aG _ _).mono ?_;rintro e M⟨rfl,g⟩;go_wp2_with fail;refine (aG _ _).mono ?_;rintro e N⟨rfl,h⟩;have i:=O (fP f g h);have D:=i.o.1;clear f g h;go_upto_region 5 with (fail)
 obtain⟨H,q,b,r,E,L,C,I,-⟩:=i.o.2;rw [q];clear q D i;have J:=r.o.cell 0;have K:=r.o.cell 2;have j:=b.o.cell 0;have k:=b.o.cell 1;have l:=b.o.cell 2;have m:=b.o.cell 3;have r0:=b.o.frozen 0;have r1:=b.o.frozen 1;have r2:=b.o.frozen 2;have t:=b.o.frozen 3;go_wp2_with fail;refine (mZ _ _ _ _).mono ?_;rintro e u⟨rfl,c⟩;have A:=O (gF c);have d:=O (show aC u (w.heap.size+1) 119 #[.bool false,.int .i64 0,.int .i64 0,.slice none 0 0] from aC.below (by repeat (first|(with_reducible exact b.o)|(with_reducible refine aC.alloc ?_ _))) c (by first | omega|(simp;omega)));have F:=O (show Below w.heap.size w u from Below.trans (by repeat (first|(with_reducible exact E.o)|(with_reducible refine dx ?_ ?_)|(with_reducible refine ah ?_ ?_) | omega|(simp;omega))) (c.mono (by first | omega|(simp;omega))));clear c;clear j k l m r0 r1 r2 t;have j:=d.o.cell 0;have k:=d.o.cell 1;have l:=d.o.cell 2;have m:=d.o.cell 3;have r0:=d.o.frozen 0;have r1:=d.o.frozen 1;have r2:=d.o.frozen 2;have t:=d.o.frozen 3;go_wp2_with fail;refine bodyPost_ret (v:=.tuple #[.agg #[.bool true,.int .i64 0,.int .i64 0,.slice (some ⟨H.heap.size,0,none⟩) 1 1],.bool true]) (by simp [results,Tryz.f103,go_sem,j,k,l,m]) rfl ?_
 refine⟨_,_,_,_,_,_,_,rfl,?_,rfl,rfl,rfl,rfl,rfl,aaJ _,?_⟩
 ·repeat (first|(with_reducible exact F.o)|(with_reducible refine dx ?_ ?_)|(with_reducible refine ah ?_ ?_) | omega|(simp;omega))
 ·refine dS.one (T:=152) ?_
  repeat (first|(with_reducible refine aC.far ?_ ?_ _) | exact A.o|(simp;omega))
theorem WS (x:Bs)(n a:Int)(C:Option Addr)(L F:Nat)(w:World):Calls Tryz.prog 103 #[.agg #[.int .u8 34,.string (aM x),.int .i64 n,.slice C L F,.int .i64 a]] w (eB (Mist.shapeOf 34 n) w):=by
 go_in
 go_wp2_with fail;refine (aG _ _).mono ?_;rintro e w1⟨rfl,g⟩;go_wp2_with fail;refine (aG _ _).mono ?_;rintro e R⟨rfl,h⟩;go_wp2_with fail;refine (aG _ _).mono ?_;rintro e S⟨rfl,i⟩;have t:=O (fP g h i);have I:=t.o.1;clear g h i;go_upto_region 5 with (fail)
 obtain⟨U,y,c,A,J,Q,G,M,-⟩:=t.o.2;rw [y];clear y I t;have N:=A.o.cell 0;have P:=A.o.cell 2;have j:=c.o.cell 0;have k:=c.o.cell 1;have l:=c.o.cell 2;have m:=c.o.cell 3;have r0:=c.o.frozen 0;have r1:=c.o.frozen 1;have r2:=c.o.frozen 2;have r:=c.o.frozen 3;go_wp2_with fail;refine (OJ _ _).mono ?_;rintro e u⟨rfl,f⟩;have b:=O (show aC u (w.heap.size+1) 119 #[.bool false,.int .i64 0,.int .i64 0,.slice none 0 0] from aC.below (by repeat (first|(with_reducible exact c.o)|(with_reducible refine aC.alloc ?_ _))) f (by first | omega|(simp;omega)));have K:=O (show Below w.heap.size w u from Below.trans (by repeat (first|(with_reducible exact J.o)|(with_reducible refine dx ?_ ?_)|(with_reducible refine ah ?_ ?_) | omega|(simp;omega))) (f.mono (by first | omega|(simp;omega))));clear f;clear j k l m r0 r1 r2 r;have j:=b.o.cell 0;have k:=b.o.cell 1;have l:=b.o.cell 2;have m:=b.o.cell 3;have r0:=b.o.frozen 0;have r1:=b.o.frozen 1;have r2:=b.o.frozen 2;have r:=b.o.frozen 3;have H:=b.o.lt;go_wp2_with fail;refine (mZ _ _ _ _).mono ?_;rintro e B⟨rfl,q⟩;have D:=O (gF q);have d:=O (show aC B (w.heap.size+1) 119 #[.bool false,.int .i64 0,.int .i64 0,.slice none 0 0] from aC.below (by repeat (first|(with_reducible exact b.o)|(with_reducible refine aC.alloc ?_ _))) q (by first | omega|(simp;omega)));have E:=O (show Below w.heap.size w B from Below.trans (by repeat (first|(with_reducible exact K.o)|(with_reducible refine dx ?_ ?_)|(with_reducible refine ah ?_ ?_) | omega|(simp;omega))) (q.mono (by first | omega|(simp;omega))));clear q;clear j k l m r0 r1 r2 r;have j:=d.o.cell 0;have k:=d.o.cell 1;have l:=d.o.cell 2;have m:=d.o.cell 3;have r0:=d.o.frozen 0;have r1:=d.o.frozen 1;have r2:=d.o.frozen 2;have r:=d.o.frozen 3;go_wp2_with fail;refine bodyPost_ret (v:=.tuple #[.agg #[.bool true,.int .i64 0,.int .i64 0,.slice (some ⟨u.heap.size,0,none⟩) 1 1],.bool true]) (by simp [results,Tryz.f103,go_sem,j,k,l,m]) rfl ?_
 refine⟨_,_,_,_,_,_,_,rfl,?_,rfl,rfl,rfl,rfl,rfl,aaJ _,?_⟩
 ·repeat (first|(with_reducible exact E.o)|(with_reducible refine dx ?_ ?_)|(with_reducible refine ah ?_ ?_) | omega|(simp;omega))
 ·refine dS.one (T:=152) ?_
  repeat (first|(with_reducible refine aC.far ?_ ?_ _) | exact D.o|(simp;omega))
theorem WT (x:Bs)(n a:Int)(C:Option Addr)(L F:Nat)(w:World):Calls Tryz.prog 103 #[.agg #[.int .u8 40,.string (aM x),.int .i64 n,.slice C L F,.int .i64 a]] w (eB (Mist.shapeOf 40 n) w):=by
 go_in
 go_wp2_with fail;refine (aG _ _).mono ?_;rintro e w1⟨rfl,g⟩;go_wp2_with fail;refine (aG _ _).mono ?_;rintro e R⟨rfl,h⟩;go_wp2_with fail;refine (aG _ _).mono ?_;rintro e S⟨rfl,i⟩;have t:=O (fP g h i);have I:=t.o.1;clear g h i;go_upto_region 5 with (fail)
 obtain⟨U,y,c,A,J,Q,G,M,-⟩:=t.o.2;rw [y];clear y I t;have N:=A.o.cell 0;have P:=A.o.cell 2;have j:=c.o.cell 0;have k:=c.o.cell 1;have l:=c.o.cell 2;have m:=c.o.cell 3;have r0:=c.o.frozen 0;have r1:=c.o.frozen 1;have r2:=c.o.frozen 2;have r:=c.o.frozen 3;go_wp2_with fail;refine (aac _ _).mono ?_;rintro e u⟨rfl,f⟩;have b:=O (show aC u (w.heap.size+1) 119 #[.bool false,.int .i64 0,.int .i64 0,.slice none 0 0] from aC.below (by repeat (first|(with_reducible exact c.o)|(with_reducible refine aC.alloc ?_ _))) f (by first | omega|(simp;omega)));have K:=O (show Below w.heap.size w u from Below.trans (by repeat (first|(with_reducible exact J.o)|(with_reducible refine dx ?_ ?_)|(with_reducible refine ah ?_ ?_) | omega|(simp;omega))) (f.mono (by first | omega|(simp;omega))));clear f;clear j k l m r0 r1 r2 r;have j:=b.o.cell 0;have k:=b.o.cell 1;have l:=b.o.cell 2;have m:=b.o.cell 3;have r0:=b.o.frozen 0;have r1:=b.o.frozen 1;have r2:=b.o.frozen 2;have r:=b.o.frozen 3;have H:=b.o.lt;go_wp2_with fail;refine (mZ _ _ _ _).mono ?_;rintro e B⟨rfl,q⟩;have D:=O (gF q);have d:=O (show aC B (w.heap.size+1) 119 #[.bool false,.int .i64 0,.int .i64 0,.slice none 0 0] from aC.below (by repeat (first|(with_reducible exact b.o)|(with_reducible refine aC.alloc ?_ _))) q (by first | omega|(simp;omega)));have E:=O (show Below w.heap.size w B from Below.trans (by repeat (first|(with_reducible exact K.o)|(with_reducible refine dx ?_ ?_)|(with_reducible refine ah ?_ ?_) | omega|(simp;omega))) (q.mono (by first | omega|(simp;omega))));clear q;clear j k l m r0 r1 r2 r;have j:=d.o.cell 0;have k:=d.o.cell 1;have l:=d.o.cell 2;have m:=d.o.cell 3;have r0:=d.o.frozen 0;have r1:=d.o.frozen 1;have r2:=d.o.frozen 2;have r:=d.o.frozen 3;go_wp2_with fail;refine bodyPost_ret (v:=.tuple #[.agg #[.bool true,.int .i64 0,.int .i64 0,.slice (some ⟨u.heap.size,0,none⟩) 1 1],.bool true]) (by simp [results,Tryz.f103,go_sem,j,k,l,m]) rfl ?_
 refine⟨_,_,_,_,_,_,_,rfl,?_,rfl,rfl,rfl,rfl,rfl,aaJ _,?_⟩
 ·repeat (first|(with_reducible exact E.o)|(with_reducible refine dx ?_ ?_)|(with_reducible refine ah ?_ ?_) | omega|(simp;omega))
 ·refine dS.one (T:=152) ?_
  repeat (first|(with_reducible refine aC.far ?_ ?_ _) | exact D.o|(simp;omega))
theorem WR (x:Bs)(n a:Int)(A:Option Addr)(G B:Nat)(w:World):Calls Tryz.prog 103 #[.agg #[.int .u8 33,.string (aM x),.int .i64 n,.slice A G B,.int .i64 a]] w (eB (Mist.shapeOf 33 n) w):=by
 go_in
 go_wp2_with fail;refine (aG _ _).mono ?_;rintro e w1⟨rfl,f⟩;go_wp2_with fail;refine (aG _ _).mono ?_;rintro e L⟨rfl,g⟩;go_wp2_with fail;refine (aG _ _).mono ?_;rintro e M⟨rfl,h⟩;have i:=O (fP f g h);have D:=i.o.1;clear f g h;go_upto_region 5 with (fail)
 obtain⟨N,t,b,u,E,K,C,H,-⟩:=i.o.2;rw [t];clear t D i;have I:=u.o.cell 0;have J:=u.o.cell 2;have k:=b.o.cell 0;have l:=b.o.cell 1;have m:=b.o.cell 2;have q:=b.o.cell 3;have r0:=b.o.frozen 0;have r1:=b.o.frozen 1;have r2:=b.o.frozen 2;have y:=b.o.frozen 3;go_wp2_with fail;refine (OJ _ _).mono ?_;rintro e r⟨rfl,d⟩;have c:=O (show aC r (w.heap.size+1) 119 #[.bool false,.int .i64 0,.int .i64 0,.slice none 0 0] from aC.below (by repeat (first|(with_reducible exact b.o)|(with_reducible refine aC.alloc ?_ _))) d (by first | omega|(simp;omega)));have F:=O (show Below w.heap.size w r from Below.trans (by repeat (first|(with_reducible exact E.o)|(with_reducible refine dx ?_ ?_)|(with_reducible refine ah ?_ ?_) | omega|(simp;omega))) (d.mono (by first | omega|(simp;omega))));clear d;clear k l m q r0 r1 r2 y;have k:=c.o.cell 0;have l:=c.o.cell 1;have m:=c.o.cell 2;have q:=c.o.cell 3;have r0:=c.o.frozen 0;have r1:=c.o.frozen 1;have r2:=c.o.frozen 2;have y:=c.o.frozen 3;have j:=c.o.lt;go_wp2_with fail;refine bodyPost_ret (v:=.tuple #[.agg #[.bool false,.int .i64 (-9223372036854775808),.int .i64 9223372036854775807,.slice (some ⟨r.heap.size,0,none⟩) 1 1],.bool true]) (by simp [results,Tryz.f103,go_sem,k,l,m,q,j]) rfl ?_
 refine⟨_,_,_,_,_,_,_,rfl,?_,rfl,rfl,rfl,rfl,rfl,aaJ _,?_⟩
 ·repeat (first|(with_reducible exact F.o)|(with_reducible refine dx ?_ ?_)|(with_reducible refine ah ?_ ?_) | omega|(simp;omega))
 ·refine dS.one (T:=152) ?_;exact yU (by simp)
theorem dS.far {w:World}{A:Option Addr}{ps:List Part}(h:dS w A ps){g i:Nat}{u:Value}(m:∀ b,A=some ⟨b,0,none⟩→b ≠ g):dS (w.setCell ⟨g,i,none⟩ u) A ps :=
 ⟨fun h0=>by
  obtain⟨b,e,l,f⟩:=h.ex h0;have c:=m b e
  refine⟨b,e,by simpa [World.setCell] using l,fun j p k=>?_⟩
  have a:∀ o,(w.setCell ⟨g,i,none⟩ u).cell? ⟨b,o,none⟩=w.cell? ⟨b,o,none⟩:=fun o=>World.cell?_setCell_other _ _ _ _ (fun d=>c (congrArg Addr.block d).symm)
  rw [a,a,a];exact f j p k⟩
def Fw (q:Int)(w:World)(e:Ending)(w':World):Prop :=
 ∃ A c,e=.returned (.agg #[.bool false,.int .i64 1,.int .i64 8,.slice A (Mist.asked q).parts.length c])∧(Mist.asked q).parts.length≤c∧dS w' A (Mist.asked q).parts∧(∀ b,A=some ⟨b,0,none⟩→w.heap.size≤b)∧Below w.heap.size w w'
theorem asked_7 (w:World):Calls Tryz.prog 164 #[.int .i64 7] w (Fw 7 w):=by
 go_in
 go_wp2_with fail;refine (aG _ _).mono ?_;rintro e w1⟨rfl,c⟩;have a:=O (gF c);have n:=O ((ah (Below.refl w.heap.size w) (aaJ _) (o:=.cells #[.bool false,.int .i64 0,.int .i64 0,.slice none 0 0] 119)).trans (c.mono (by simp)));clear c;have j:=a.o.cell 0;have k:=a.o.cell 1;have l:=a.o.cell 2;have m:=a.o.cell 3;have r0:=a.o.frozen 0;have r1:=a.o.frozen 1;have r2:=a.o.frozen 2;have q:=a.o.frozen 3;have d:=a.o.lt;have f:w.heap.size < w1.heap.size+1:=by omega
 have g:w.heap.size < w1.heap.size+1+1:=by omega
 have i:w.heap.size < w1.heap.size+1+1+1:=by omega
 go_wp2_with fail;refine bodyPost_ret (v:=.agg #[.bool false,.int .i64 1,.int .i64 8,.slice none 0 0]) (by simp [results,Tryz.f164,go_sem,j,k,l,m,d,f]) rfl ?_
 refine⟨none,0,rfl,aaJ _,dS.nil _,(fun b h=>nomatch h),?_⟩
 repeat (first|(with_reducible exact n.o)|(with_reducible refine dx ?_ ?_)|(with_reducible refine ah ?_ ?_) | omega|(simp;omega))
theorem asked_8 (w:World):Calls Tryz.prog 164 #[.int .i64 8] w (Fw 8 w):=by
 have c:=O (show (Mist.asked 8).parts=[⟨1,801,.expr⟩] from rfl);go_in
 go_wp2_with fail;refine (aG _ _).mono ?_;rintro e w1⟨rfl,d⟩;have a:=O (gF d);have q:=O ((ah (Below.refl w.heap.size w) (aaJ _) (o:=.cells #[.bool false,.int .i64 0,.int .i64 0,.slice none 0 0] 119)).trans (d.mono (by simp)));clear d;have k:=a.o.cell 0;have l:=a.o.cell 1;have m:=a.o.cell 2;have n:=a.o.cell 3;have r0:=a.o.frozen 0;have r1:=a.o.frozen 1;have r2:=a.o.frozen 2;have r:=a.o.frozen 3;have f:=a.o.lt;have g:w.heap.size < w1.heap.size+1:=by omega
 have i:w.heap.size < w1.heap.size+1+1:=by omega
 have j:w.heap.size < w1.heap.size+1+1+1:=by omega
 go_wp2_with fail;refine bodyPost_ret (v:=.agg #[.bool false,.int .i64 1,.int .i64 8,.slice (some ⟨w1.heap.size+1+1,0,none⟩) 1 1]) (by simp [results,Tryz.f164,go_sem,k,l,m,n,f,g,i]) rfl ?_
 refine⟨some ⟨w1.heap.size+1+1,0,none⟩,1,by rw [c.o];rfl,by rw [c.o];exact aaJ _,?_,?_,?_⟩
 ·rw [c.o];refine dS.one (T:=152) ?_;exact yU (by simp)
 ·intro b h;injection h with h;injection h with h;omega
 ·repeat (first|(with_reducible exact q.o)|(with_reducible refine dx ?_ ?_)|(with_reducible refine ah ?_ ?_) | omega|(simp;omega))
theorem asked_n (q:Int)(h7:¬ q=7)(h8:¬ q=8)(w:World):Calls Tryz.prog 164 #[.int .i64 q] w (Fw q w):=by
 have t:(q == 7)=false:=by simpa using h7
 have u:(q == 8)=false:=by simpa using h8
 have c:=O (show (Mist.asked q).parts=[⟨1,1,.expr⟩] by simp [Mist.asked,h7,h8]);go_in
 go_wp2_with fail;refine (aG _ _).mono ?_;rintro e w1⟨rfl,d⟩;have a:=O (gF d);have r:=O ((ah (Below.refl w.heap.size w) (aaJ _) (o:=.cells #[.bool false,.int .i64 0,.int .i64 0,.slice none 0 0] 119)).trans (d.mono (by simp)));clear d;have k:=a.o.cell 0;have l:=a.o.cell 1;have m:=a.o.cell 2;have n:=a.o.cell 3;have r0:=a.o.frozen 0;have r1:=a.o.frozen 1;have r2:=a.o.frozen 2;have x:=a.o.frozen 3;have f:=a.o.lt;have g:w.heap.size < w1.heap.size+1:=by omega
 have i:w.heap.size < w1.heap.size+1+1:=by omega
 have j:w.heap.size < w1.heap.size+1+1+1:=by omega
 go_wp2_with fail;refine bodyPost_ret (v:=.agg #[.bool false,.int .i64 1,.int .i64 8,.slice (some ⟨w1.heap.size,0,none⟩) 1 1]) (by simp [results,Tryz.f164,go_sem,k,l,m,n,f,g]) rfl ?_
 refine⟨some ⟨w1.heap.size,0,none⟩,1,by rw [c.o];rfl,by rw [c.o];exact aaJ _,?_,?_,?_⟩
 ·rw [c.o];refine dS.one (T:=152) ?_;exact aC.alloc (yU (by simp)) _
 ·intro b h;injection h with h;injection h with h;omega
 ·repeat (first|(with_reducible exact r.o)|(with_reducible refine dx ?_ ?_)|(with_reducible refine ah ?_ ?_) | omega|(simp;omega))
theorem Vh (q:Int)(w:World):Calls Tryz.prog 164 #[.int .i64 q] w (Fw q w):=by
 by_cases h7:q=7
 ·subst h7;exact asked_7 w
 ·by_cases h8:q=8
  ·subst h8;exact asked_8 w
  ·exact asked_n q h7 h8 w
theorem WZ (x:Bs)(n a:Int)(G:Option Addr)(Q K:Nat)(w:World):Calls Tryz.prog 103 #[.agg #[.int .u8 46,.string (aM x),.int .i64 n,.slice G Q K,.int .i64 a]] w (eB (Mist.shapeOf 46 n) w):=by
 go_in
 go_wp2_with fail;refine (aG _ _).mono ?_;rintro e w1⟨rfl,i⟩;go_wp2_with fail;refine (aG _ _).mono ?_;rintro e V⟨rfl,j⟩;go_wp2_with fail;refine (aG _ _).mono ?_;rintro e W⟨rfl,k⟩;have r:=O (fP i j k);have M:=r.o.1;clear i j k;go_upto_region 5 with (fail)
 obtain⟨X,C,d,D,N,U,L,R,-⟩:=r.o.2;rw [C];clear C M r;have S:=D.o.cell 0;have T:=D.o.cell 2;have u:=d.o.cell 0;have y:=d.o.cell 1;have A:=d.o.cell 2;have B:=d.o.cell 3;have r0:=d.o.frozen 0;have r1:=d.o.frozen 1;have r2:=d.o.frozen 2;have E:=d.o.frozen 3;go_wp2_with fail;refine (Vh _ _).mono ?_;rintro e F⟨q,c4,rfl,l,m,c,g⟩;have J:=O m;have H:=O (show ∀ b,q=some ⟨b,0,none⟩→b ≠ w.heap.size+1 from fun b h=>by have h9:=c b h;omega);clear m c;have f:=O (show aC F (w.heap.size+1) 119 #[.bool false,.int .i64 0,.int .i64 0,.slice none 0 0] from aC.below (by repeat (first|(with_reducible exact d.o)|(with_reducible refine aC.alloc ?_ _))) g (by first | omega|(simp;omega)));have P:=O (show Below w.heap.size w F from Below.trans (by repeat (first|(with_reducible exact N.o)|(with_reducible refine dx ?_ ?_)|(with_reducible refine ah ?_ ?_) | omega|(simp;omega))) (g.mono (by first | omega|(simp;omega))));clear g;clear u y A B r0 r1 r2 E;have u:=f.o.cell 0;have y:=f.o.cell 1;have A:=f.o.cell 2;have B:=f.o.cell 3;have r0:=f.o.frozen 0;have r1:=f.o.frozen 1;have r2:=f.o.frozen 2;have E:=f.o.frozen 3;obtain⟨t,c⟩:∃ t,t=(Mist.asked n).parts.length:=⟨_,rfl⟩;rw [← c] at l ⊢
 have I:=O c;clear c;go_wp2_with fail;refine bodyPost_ret (v:=.tuple #[.agg #[.bool false,.int .i64 1,.int .i64 8,.slice q t c4],.bool true]) (by simp [results,Tryz.f103,go_sem,u,y,A,B]) rfl ?_
 refine⟨_,_,_,q,_,_,_,rfl,?_,rfl,rfl,rfl,rfl,I.o,l,?_⟩
 ·repeat (first|(with_reducible exact P.o)|(with_reducible refine dx ?_ ?_)|(with_reducible refine ah ?_ ?_) | omega|(simp;omega))
 ·repeat (first|(with_reducible refine dS.far ?_ H.o) | exact J.o)
theorem dS.three {w:World}{b:Nat}{p q r:Part}(h:aC w b 152 (Ux p ++ Ux q ++ Ux r).toArray):dS w (some ⟨b,0,none⟩) [p,q,r]:=by
 refine⟨fun _=>⟨b,rfl,h.lt,fun j x a=>?_⟩⟩
 match j,a with
 | 0, a =>  obtain rfl : p = x := by simpa using a
            exact⟨h.cell 0,h.cell 1,h.cell 2⟩
 | 1, a =>  obtain rfl : q = x := by simpa using a
            exact⟨h.cell 3,h.cell 4,h.cell 5⟩
 | 2, a =>  obtain rfl : r = x := by simpa using a
            exact⟨h.cell 6,h.cell 7,h.cell 8⟩
 | j+3,a=>simp at a
theorem R4 (n:Int)(w:World):Calls Tryz.prog 157 #[.int .i64 n,.func (.func 161) #[] #[]] w fun e a=>e=.returned (.agg #[.int .i64 n,.int .i64 n,.func (.func 161) #[] #[]])∧a=w.alloc (.cells #[.int .i64 n,.int .i64 n,.func (.func 161) #[] #[]] 152):=by
 go_in
 go_wp2;exact bodyPost_ret (v:=.agg #[.int .i64 n,.int .i64 n,.func (.func 161) #[] #[]]) (by simp [results,Tryz.f157,go_sem]) rfl ⟨rfl,rfl⟩
theorem WV (x:Bs)(n a:Int)(l:Option Addr)(u q:Nat)(w:World):Calls Tryz.prog 103 #[.agg #[.int .u8 42,.string (aM x),.int .i64 n,.slice l u q,.int .i64 a]] w (eB (Mist.shapeOf 42 n) w):=by
 go_in
 go_wp2_with fail;refine (aG _ _).mono ?_;rintro e w1⟨rfl,c⟩;go_wp2_with fail;refine (aG _ _).mono ?_;rintro e M⟨rfl,d⟩;go_wp2_with fail;refine (aG _ _).mono ?_;rintro e N⟨rfl,f⟩;have h:=O (fP c d f);have r:=h.o.1;clear c d f;go_upto_region 5 with (fail)
 obtain⟨D,j,b,k,t,L,i,m,g,-,-,-,-⟩:=h.o.2;rw [j];clear j r h;have F:=g.o.cell 0;have G:=g.o.cell 1;have H:=g.o.cell 2;have E:=g.o.lt;have I:=k.o.cell 0;have J:=k.o.cell 2;have y:=b.o.cell 0;have A:=b.o.cell 1;have B:=b.o.cell 2;have C:=b.o.cell 3;have r0:=b.o.frozen 0;have r1:=b.o.frozen 1;have r2:=b.o.frozen 2;have K:=b.o.frozen 3;go_wp2_with fail;go_region_with ((refine (R4 _ _).mono ?_;rintro e P⟨rfl,rfl⟩))
 all_goals
  go_wp2_with fail;refine bodyPost_ret (v:=.tuple #[.agg #[.bool true,.int .i64 0,.int .i64 9223372036854775807,.slice (some ⟨D.heap.size+1,0,none⟩) 3 3],.bool true]) (by simp [results,Tryz.f103,go_sem,y,A,B,C,i,m]) rfl ?_
  refine⟨_,_,_,_,_,_,_,rfl,?_,rfl,rfl,rfl,rfl,rfl,aaJ _,?_⟩
  ·refine Below.drew ?_
   repeat (first|(with_reducible exact t.o)|(with_reducible refine dx ?_ ?_)|(with_reducible refine ah ?_ ?_) | omega|(simp;omega))
  ·refine dS.three ?_;refine aC.drew ?_;exact yU (by simp)
end Go.Proofs.YthepmkjggfijoaaGreatDoor
