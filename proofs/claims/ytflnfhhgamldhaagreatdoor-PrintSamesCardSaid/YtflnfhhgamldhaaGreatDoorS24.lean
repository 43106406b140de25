/-
  A part of the proof.
-/
import Derived.Test.YtflnfhhgamldhaaGreatDoorS23
set_option linter.all false
set_option maxRecDepth 100000
set_option maxHeartbeats 4000000
namespace Go.Proofs.YtflnfhhgamldhaaGreatDoor
open Go.RowKit Mist
attribute [local go_sem] ah aM aV au ak
theorem V5 (x:Bs)(n a:Int)(A:Option Addr)(H C:Nat)(w:World):Calls Tryz.prog 132 #[.agg #[.int .u8 21,.string (aH x),.int .i64 n,.slice A H C,.int .i64 a]] w (eu (Mist.shapeOf 21 n) w):=by
 go_in
 go_wp2_with fail;refine (aO _ _).mono ?_;rintro e w1⟨rfl,f⟩;go_wp2_with fail;refine (aO _ _).mono ?_;rintro e Q⟨rfl,g⟩;go_wp2_with fail;refine (aO _ _).mono ?_;rintro e R⟨rfl,h⟩;have j:=O (fu f g h);have E:=j.o.1;clear f g h;go_upto_region 5 with (fail)
 obtain⟨I,r,b,t,F,S,D,U,-,-,-,i,-⟩:=j.o.2;rw [r];clear r E j;have K:=i.o.cell 0;have L:=i.o.cell 1;have M:=i.o.cell 2;have J:=i.o.lt;have N:=t.o.cell 0;have P:=t.o.cell 2;have k:=b.o.cell 0;have l:=b.o.cell 1;have m:=b.o.cell 2;have q:=b.o.cell 3;have r0:=b.o.frozen 0;have r1:=b.o.frozen 1;have r2:=b.o.frozen 2;have u:=b.o.frozen 3;go_wp2_with fail;refine (mq _ _ _ _).mono ?_;rintro e y⟨rfl,c⟩;have B:=O (gW c);have d:=O (show bf y (w.heap.size+1) 150 #[.bool false,.int .i64 0,.int .i64 0,.slice none 0 0] from bf.below (by repeat (first|(with_reducible exact b.o)|(with_reducible refine bf.alloc ?_ _))) c (by first | omega|(simp;omega)));have G:=O (show Below w.heap.size w y from Below.trans (by repeat (first|(with_reducible exact F.o)|(with_reducible refine eF ?_ ?_)|(with_reducible refine aG ?_ ?_) | omega|(simp;omega))) (c.mono (by first | omega|(simp;omega))));clear c;clear k l m q r0 r1 r2 u;have k:=d.o.cell 0;have l:=d.o.cell 1;have m:=d.o.cell 2;have q:=d.o.cell 3;have r0:=d.o.frozen 0;have r1:=d.o.frozen 1;have r2:=d.o.frozen 2;have u:=d.o.frozen 3;go_wp2_with fail;refine bodyPost_ret (v:=.tuple #[.agg #[.bool true,.int .i64 0,.int .i64 0,.slice (some ⟨I.heap.size,0,none⟩) 1 1],.bool true]) (by simp [results,Tryz.f132,go_sem,k,l,m,q]) rfl ?_
 refine⟨_,_,_,_,_,_,_,rfl,?_,rfl,rfl,rfl,rfl,rfl,ak0 _,?_⟩
 ·repeat (first|(with_reducible exact G.o)|(with_reducible refine eF ?_ ?_)|(with_reducible refine aG ?_ ?_) | omega|(simp;omega))
 ·refine dR.one (T:=169) ?_
  repeat (first|(with_reducible refine bf.far ?_ ?_ _) | exact B.o|(simp;omega))
theorem V6 (x:Bs)(n a:Int)(A:Option Addr)(H C:Nat)(w:World):Calls Tryz.prog 132 #[.agg #[.int .u8 22,.string (aH x),.int .i64 n,.slice A H C,.int .i64 a]] w (eu (Mist.shapeOf 22 n) w):=by
 go_in
 go_wp2_with fail;refine (aO _ _).mono ?_;rintro e w1⟨rfl,f⟩;go_wp2_with fail;refine (aO _ _).mono ?_;rintro e Q⟨rfl,g⟩;go_wp2_with fail;refine (aO _ _).mono ?_;rintro e R⟨rfl,h⟩;have j:=O (fu f g h);have E:=j.o.1;clear f g h;go_upto_region 5 with (fail)
 obtain⟨I,r,b,t,F,S,D,U,i,-,-,-,-⟩:=j.o.2;rw [r];clear r E j;have K:=i.o.cell 0;have L:=i.o.cell 1;have M:=i.o.cell 2;have J:=i.o.lt;have N:=t.o.cell 0;have P:=t.o.cell 2;have k:=b.o.cell 0;have l:=b.o.cell 1;have m:=b.o.cell 2;have q:=b.o.cell 3;have r0:=b.o.frozen 0;have r1:=b.o.frozen 1;have r2:=b.o.frozen 2;have u:=b.o.frozen 3;go_wp2_with fail;refine (mq _ _ _ _).mono ?_;rintro e y⟨rfl,c⟩;have B:=O (gW c);have d:=O (show bf y (w.heap.size+1) 150 #[.bool false,.int .i64 0,.int .i64 0,.slice none 0 0] from bf.below (by repeat (first|(with_reducible exact b.o)|(with_reducible refine bf.alloc ?_ _))) c (by first | omega|(simp;omega)));have G:=O (show Below w.heap.size w y from Below.trans (by repeat (first|(with_reducible exact F.o)|(with_reducible refine eF ?_ ?_)|(with_reducible refine aG ?_ ?_) | omega|(simp;omega))) (c.mono (by first | omega|(simp;omega))));clear c;clear k l m q r0 r1 r2 u;have k:=d.o.cell 0;have l:=d.o.cell 1;have m:=d.o.cell 2;have q:=d.o.cell 3;have r0:=d.o.frozen 0;have r1:=d.o.frozen 1;have r2:=d.o.frozen 2;have u:=d.o.frozen 3;go_wp2_with fail;refine bodyPost_ret (v:=.tuple #[.agg #[.bool true,.int .i64 0,.int .i64 0,.slice (some ⟨I.heap.size,0,none⟩) 1 1],.bool true]) (by simp [results,Tryz.f132,go_sem,k,l,m,q]) rfl ?_
 refine⟨_,_,_,_,_,_,_,rfl,?_,rfl,rfl,rfl,rfl,rfl,ak0 _,?_⟩
 ·repeat (first|(with_reducible exact G.o)|(with_reducible refine eF ?_ ?_)|(with_reducible refine aG ?_ ?_) | omega|(simp;omega))
 ·refine dR.one (T:=169) ?_
  repeat (first|(with_reducible refine bf.far ?_ ?_ _) | exact B.o|(simp;omega))
theorem V9 (x:Bs)(n a:Int)(A:Option Addr)(H C:Nat)(w:World):Calls Tryz.prog 132 #[.agg #[.int .u8 25,.string (aH x),.int .i64 n,.slice A H C,.int .i64 a]] w (eu (Mist.shapeOf 25 n) w):=by
 go_in
 go_wp2_with fail;refine (aO _ _).mono ?_;rintro e w1⟨rfl,f⟩;go_wp2_with fail;refine (aO _ _).mono ?_;rintro e Q⟨rfl,g⟩;go_wp2_with fail;refine (aO _ _).mono ?_;rintro e R⟨rfl,h⟩;have j:=O (fu f g h);have E:=j.o.1;clear f g h;go_upto_region 5 with (fail)
 obtain⟨I,r,b,t,F,S,D,U,i,-,-,-,-⟩:=j.o.2;rw [r];clear r E j;have K:=i.o.cell 0;have L:=i.o.cell 1;have M:=i.o.cell 2;have J:=i.o.lt;have N:=t.o.cell 0;have P:=t.o.cell 2;have k:=b.o.cell 0;have l:=b.o.cell 1;have m:=b.o.cell 2;have q:=b.o.cell 3;have r0:=b.o.frozen 0;have r1:=b.o.frozen 1;have r2:=b.o.frozen 2;have u:=b.o.frozen 3;go_wp2_with fail;refine (mq _ _ _ _).mono ?_;rintro e y⟨rfl,c⟩;have B:=O (gW c);have d:=O (show bf y (w.heap.size+1) 150 #[.bool false,.int .i64 0,.int .i64 0,.slice none 0 0] from bf.below (by repeat (first|(with_reducible exact b.o)|(with_reducible refine bf.alloc ?_ _))) c (by first | omega|(simp;omega)));have G:=O (show Below w.heap.size w y from Below.trans (by repeat (first|(with_reducible exact F.o)|(with_reducible refine eF ?_ ?_)|(with_reducible refine aG ?_ ?_) | omega|(simp;omega))) (c.mono (by first | omega|(simp;omega))));clear c;clear k l m q r0 r1 r2 u;have k:=d.o.cell 0;have l:=d.o.cell 1;have m:=d.o.cell 2;have q:=d.o.cell 3;have r0:=d.o.frozen 0;have r1:=d.o.frozen 1;have r2:=d.o.frozen 2;have u:=d.o.frozen 3;go_wp2_with fail;refine bodyPost_ret (v:=.tuple #[.agg #[.bool true,.int .i64 0,.int .i64 0,.slice (some ⟨I.heap.size,0,none⟩) 1 1],.bool true]) (by simp [results,Tryz.f132,go_sem,k,l,m,q]) rfl ?_
 refine⟨_,_,_,_,_,_,_,rfl,?_,rfl,rfl,rfl,rfl,rfl,ak0 _,?_⟩
 ·repeat (first|(with_reducible exact G.o)|(with_reducible refine eF ?_ ?_)|(with_reducible refine aG ?_ ?_) | omega|(simp;omega))
 ·refine dR.one (T:=169) ?_
  repeat (first|(with_reducible refine bf.far ?_ ?_ _) | exact B.o|(simp;omega))
theorem Ws (x:Bs)(n a:Int)(A:Option Addr)(H C:Nat)(w:World):Calls Tryz.prog 132 #[.agg #[.int .u8 43,.string (aH x),.int .i64 n,.slice A H C,.int .i64 a]] w (eu (Mist.shapeOf 43 n) w):=by
 go_in
 go_wp2_with fail;refine (aO _ _).mono ?_;rintro e w1⟨rfl,f⟩;go_wp2_with fail;refine (aO _ _).mono ?_;rintro e Q⟨rfl,g⟩;go_wp2_with fail;refine (aO _ _).mono ?_;rintro e R⟨rfl,h⟩;have j:=O (fu f g h);have E:=j.o.1;clear f g h;go_upto_region 5 with (fail)
 obtain⟨I,r,b,t,F,S,D,U,i,-,-,-,-⟩:=j.o.2;rw [r];clear r E j;have K:=i.o.cell 0;have L:=i.o.cell 1;have M:=i.o.cell 2;have J:=i.o.lt;have N:=t.o.cell 0;have P:=t.o.cell 2;have k:=b.o.cell 0;have l:=b.o.cell 1;have m:=b.o.cell 2;have q:=b.o.cell 3;have r0:=b.o.frozen 0;have r1:=b.o.frozen 1;have r2:=b.o.frozen 2;have u:=b.o.frozen 3;go_wp2_with fail;refine (mq _ _ _ _).mono ?_;rintro e y⟨rfl,c⟩;have B:=O (gW c);have d:=O (show bf y (w.heap.size+1) 150 #[.bool false,.int .i64 0,.int .i64 0,.slice none 0 0] from bf.below (by repeat (first|(with_reducible exact b.o)|(with_reducible refine bf.alloc ?_ _))) c (by first | omega|(simp;omega)));have G:=O (show Below w.heap.size w y from Below.trans (by repeat (first|(with_reducible exact F.o)|(with_reducible refine eF ?_ ?_)|(with_reducible refine aG ?_ ?_) | omega|(simp;omega))) (c.mono (by first | omega|(simp;omega))));clear c;clear k l m q r0 r1 r2 u;have k:=d.o.cell 0;have l:=d.o.cell 1;have m:=d.o.cell 2;have q:=d.o.cell 3;have r0:=d.o.frozen 0;have r1:=d.o.frozen 1;have r2:=d.o.frozen 2;have u:=d.o.frozen 3;go_wp2_with fail;refine bodyPost_ret (v:=.tuple #[.agg #[.bool true,.int .i64 0,.int .i64 0,.slice (some ⟨I.heap.size,0,none⟩) 1 1],.bool true]) (by simp [results,Tryz.f132,go_sem,k,l,m,q]) rfl ?_
 refine⟨_,_,_,_,_,_,_,rfl,?_,rfl,rfl,rfl,rfl,rfl,ak0 _,?_⟩
 ·repeat (first|(with_reducible exact G.o)|(with_reducible refine eF ?_ ?_)|(with_reducible refine aG ?_ ?_) | omega|(simp;omega))
 ·refine dR.one (T:=169) ?_
  repeat (first|(with_reducible refine bf.far ?_ ?_ _) | exact B.o|(simp;omega))
theorem Wt (x:Bs)(n a:Int)(A:Option Addr)(H C:Nat)(w:World):Calls Tryz.prog 132 #[.agg #[.int .u8 44,.string (aH x),.int .i64 n,.slice A H C,.int .i64 a]] w (eu (Mist.shapeOf 44 n) w):=by
 go_in
 go_wp2_with fail;refine (aO _ _).mono ?_;rintro e w1⟨rfl,f⟩;go_wp2_with fail;refine (aO _ _).mono ?_;rintro e Q⟨rfl,g⟩;go_wp2_with fail;refine (aO _ _).mono ?_;rintro e R⟨rfl,h⟩;have j:=O (fu f g h);have E:=j.o.1;clear f g h;go_upto_region 5 with (fail)
 obtain⟨I,r,b,t,F,S,D,U,i,-,-,-,-⟩:=j.o.2;rw [r];clear r E j;have K:=i.o.cell 0;have L:=i.o.cell 1;have M:=i.o.cell 2;have J:=i.o.lt;have N:=t.o.cell 0;have P:=t.o.cell 2;have k:=b.o.cell 0;have l:=b.o.cell 1;have m:=b.o.cell 2;have q:=b.o.cell 3;have r0:=b.o.frozen 0;have r1:=b.o.frozen 1;have r2:=b.o.frozen 2;have u:=b.o.frozen 3;go_wp2_with fail;refine (mq _ _ _ _).mono ?_;rintro e y⟨rfl,c⟩;have B:=O (gW c);have d:=O (show bf y (w.heap.size+1) 150 #[.bool false,.int .i64 0,.int .i64 0,.slice none 0 0] from bf.below (by repeat (first|(with_reducible exact b.o)|(with_reducible refine bf.alloc ?_ _))) c (by first | omega|(simp;omega)));have G:=O (show Below w.heap.size w y from Below.trans (by repeat (first|(with_reducible exact F.o)|(with_reducible refine eF ?_ ?_)|(with_reducible refine aG ?_ ?_) | omega|(simp;omega))) (c.mono (by first | omega|(simp;omega))));clear c;clear k l m q r0 r1 r2 u;have k:=d.o.cell 0;have l:=d.o.cell 1;have m:=d.o.cell 2;have q:=d.o.cell 3;have r0:=d.o.frozen 0;have r1:=d.o.frozen 1;have r2:=d.o.frozen 2;have u:=d.o.frozen 3;go_wp2_with fail;refine bodyPost_ret (v:=.tuple #[.agg #[.bool true,.int .i64 0,.int .i64 0,.slice (some ⟨I.heap.size,0,none⟩) 1 1],.bool true]) (by simp [results,Tryz.f132,go_sem,k,l,m,q]) rfl ?_
 refine⟨_,_,_,_,_,_,_,rfl,?_,rfl,rfl,rfl,rfl,rfl,ak0 _,?_⟩
 ·repeat (first|(with_reducible exact G.o)|(with_reducible refine eF ?_ ?_)|(with_reducible refine aG ?_ ?_) | omega|(simp;omega))
 ·refine dR.one (T:=169) ?_
  repeat (first|(with_reducible refine bf.far ?_ ?_ _) | exact B.o|(simp;omega))
theorem V8 (x:Bs)(n a:Int)(y:Option Addr)(G B:Nat)(w:World):Calls Tryz.prog 132 #[.agg #[.int .u8 24,.string (aH x),.int .i64 n,.slice y G B,.int .i64 a]] w (eu (Mist.shapeOf 24 n) w):=by
 go_in
 go_wp2_with fail;refine (aO _ _).mono ?_;rintro e w1⟨rfl,f⟩;go_wp2_with fail;refine (aO _ _).mono ?_;rintro e K⟨rfl,g⟩;go_wp2_with fail;refine (aO _ _).mono ?_;rintro e L⟨rfl,h⟩;have i:=O (fu f g h);have D:=i.o.1;clear f g h;go_upto_region 5 with (fail)
 obtain⟨H,q,b,r,E,M,C,N,-⟩:=i.o.2;rw [q];clear q D i;have I:=r.o.cell 0;have J:=r.o.cell 2;have j:=b.o.cell 0;have k:=b.o.cell 1;have l:=b.o.cell 2;have m:=b.o.cell 3;have r0:=b.o.frozen 0;have r1:=b.o.frozen 1;have r2:=b.o.frozen 2;have t:=b.o.frozen 3;go_wp2_with fail;refine (mq _ _ _ _).mono ?_;rintro e u⟨rfl,c⟩;have A:=O (gW c);have d:=O (show bf u (w.heap.size+1) 150 #[.bool false,.int .i64 0,.int .i64 0,.slice none 0 0] from bf.below (by repeat (first|(with_reducible exact b.o)|(with_reducible refine bf.alloc ?_ _))) c (by first | omega|(simp;omega)));have F:=O (show Below w.heap.size w u from Below.trans (by repeat (first|(with_reducible exact E.o)|(with_reducible refine eF ?_ ?_)|(with_reducible refine aG ?_ ?_) | omega|(simp;omega))) (c.mono (by first | omega|(simp;omega))));clear c;clear j k l m r0 r1 r2 t;have j:=d.o.cell 0;have k:=d.o.cell 1;have l:=d.o.cell 2;have m:=d.o.cell 3;have r0:=d.o.frozen 0;have r1:=d.o.frozen 1;have r2:=d.o.frozen 2;have t:=d.o.frozen 3;go_wp2_with fail;refine bodyPost_ret (v:=.tuple #[.agg #[.bool true,.int .i64 0,.int .i64 0,.slice (some ⟨H.heap.size,0,none⟩) 1 1],.bool true]) (by simp [results,Tryz.f132,go_sem,j,k,l,m]) rfl ?_
 refine⟨_,_,_,_,_,_,_,rfl,?_,rfl,rfl,rfl,rfl,rfl,ak0 _,?_⟩
 ·repeat (first|(with_reducible exact F.o)|(with_reducible refine eF ?_ ?_)|(with_reducible refine aG ?_ ?_) | omega|(simp;omega))
 ·refine dR.one (T:=169) ?_
  repeat (first|(with_reducible refine bf.far ?_ ?_ _) | exact A.o|(simp;omega))
theorem Wp (x:Bs)(n a:Int)(y:Option Addr)(G B:Nat)(w:World):Calls Tryz.prog 132 #[.agg #[.int .u8 41,.string (aH x),.int .i64 n,.slice y G B,.int .i64 a]] w (eu (Mist.shapeOf 41 n) w):=by
 go_in
 go_wp2_with fail;refine (aO _ _).mono ?_;rintro e w1⟨rfl,f⟩;go_wp2_with fail;refine (aO _ _).mono ?_;rintro e K⟨rfl,g⟩;go_wp2_with fail;refine (aO _ _).mono ?_;rintro e L⟨rfl,h⟩;have i:=O (fu f g h);have D:=i.o.1;clear f g h;go_upto_region 5 with (fail)
 obtain⟨H,q,b,r,E,M,C,N,-⟩:=i.o.2;rw [q];clear q D i;have I:=r.o.cell 0;have J:=r.o.cell 2;have j:=b.o.cell 0;have k:=b.o.cell 1;have l:=b.o.cell 2;have m:=b.o.cell 3;have r0:=b.o.frozen 0;have r1:=b.o.frozen 1;have r2:=b.o.frozen 2;have t:=b.o.frozen 3;go_wp2_with fail;refine (mq _ _ _ _).mono ?_;rintro e u⟨rfl,c⟩;have A:=O (gW c);have d:=O (show bf u (w.heap.size+1) 150 #[.bool false,.int .i64 0,.int .i64 0,.slice none 0 0] from bf.below (by repeat (first|(with_reducible exact b.o)|(with_reducible refine bf.alloc ?_ _))) c (by first | omega|(simp;omega)));have F:=O (show Below w.heap.size w u from Below.trans (by repeat (first|(with_reducible exact E.o)|(with_reducible refine eF ?_ ?_)|(with_reducible refine aG ?_ ?_) | omega|(simp;omega))) (c.mono (by first | omega|(simp;omega))));clear c;clear j k l m r0 r1 r2 t;have j:=d.o.cell 0;have k:=d.o.cell 1;have l:=d.o.cell 2;have m:=d.o.cell 3;have r0:=d.o.frozen 0;have r1:=d.o.frozen 1;have r2:=d.o.frozen 2;have t:=d.o.frozen 3;go_wp2_with fail;refine bodyPost_ret (v:=.tuple #[.agg #[.bool true,.int .i64 0,.int .i64 0,.slice (some ⟨H.heap.size,0,none⟩) 1 1],.bool true]) (by simp [results,Tryz.f132,go_sem,j,k,l,m]) rfl ?_
 refine⟨_,_,_,_,_,_,_,rfl,?_,rfl,rfl,rfl,rfl,rfl,ak0 _,?_⟩
 ·repeat (first|(with_reducible exact F.o)|(with_reducible refine eF ?_ ?_)|(with_reducible refine aG ?_ ?_) | omega|(simp;omega))
 ·refine dR.one (T:=169) ?_
  repeat (first|(with_reducible refine bf.far ?_ ?_ _) | exact A.o|(simp;omega))
theorem Wn (x:Bs)(n a:Int)(D:Option Addr)(L F:Nat)(w:World):Calls Tryz.prog 132 #[.agg #[.int .u8 34,.string (aH x),.int .i64 n,.slice D L F,.int .i64 a]] w (eu (Mist.shapeOf 34 n) w):=by
 go_in
 go_wp2_with fail;refine (aO _ _).mono ?_;rintro e w1⟨rfl,g⟩;go_wp2_with fail;refine (aO _ _).mono ?_;rintro e P⟨rfl,h⟩;go_wp2_with fail;refine (aO _ _).mono ?_;rintro e Q⟨rfl,i⟩;have t:=O (fu g h i);have I:=t.o.1;clear g h i;go_upto_region 5 with (fail)
 obtain⟨R,A,c,B,J,S,G,U,-⟩:=t.o.2;rw [A];clear A I t;have M:=B.o.cell 0;have N:=B.o.cell 2;have j:=c.o.cell 0;have k:=c.o.cell 1;have l:=c.o.cell 2;have m:=c.o.cell 3;have r0:=c.o.frozen 0;have r1:=c.o.frozen 1;have r2:=c.o.frozen 2;have r:=c.o.frozen 3;go_wp2_with fail;refine (L_ _ _).mono ?_;rintro e y⟨rfl,f⟩;have b:=O (show bf y (w.heap.size+1) 150 #[.bool false,.int .i64 0,.int .i64 0,.slice none 0 0] from bf.below (by repeat (first|(with_reducible exact c.o)|(with_reducible refine bf.alloc ?_ _))) f (by first | omega|(simp;omega)));have K:=O (show Below w.heap.size w y from Below.trans (by repeat (first|(with_reducible exact J.o)|(with_reducible refine eF ?_ ?_)|(with_reducible refine aG ?_ ?_) | omega|(simp;omega))) (f.mono (by first | omega|(simp;omega))));clear f;clear j k l m r0 r1 r2 r;have j:=b.o.cell 0;have k:=b.o.cell 1;have l:=b.o.cell 2;have m:=b.o.cell 3;have r0:=b.o.frozen 0;have r1:=b.o.frozen 1;have r2:=b.o.frozen 2;have r:=b.o.frozen 3;have H:=b.o.lt;go_wp2_with fail;refine (mq _ _ _ _).mono ?_;rintro e C⟨rfl,q⟩;have E:=O (gW q);have d:=O (show bf C (w.heap.size+1) 150 #[.bool false,.int .i64 0,.int .i64 0,.slice none 0 0] from bf.below (by repeat (first|(with_reducible exact b.o)|(with_reducible refine bf.alloc ?_ _))) q (by first | omega|(simp;omega)));have u:=O (show Below w.heap.size w C from Below.trans (by repeat (first|(with_reducible exact K.o)|(with_reducible refine eF ?_ ?_)|(with_reducible refine aG ?_ ?_) | omega|(simp;omega))) (q.mono (by first | omega|(simp;omega))));clear q;clear j k l m r0 r1 r2 r;have j:=d.o.cell 0;have k:=d.o.cell 1;have l:=d.o.cell 2;have m:=d.o.cell 3;have r0:=d.o.frozen 0;have r1:=d.o.frozen 1;have r2:=d.o.frozen 2;have r:=d.o.frozen 3;go_wp2_with fail;refine bodyPost_ret (v:=.tuple #[.agg #[.bool true,.int .i64 0,.int .i64 0,.slice (some ⟨y.heap.size,0,none⟩) 1 1],.bool true]) (by simp [results,Tryz.f132,go_sem,j,k,l,m]) rfl ?_
 refine⟨_,_,_,_,_,_,_,rfl,?_,rfl,rfl,rfl,rfl,rfl,ak0 _,?_⟩
 ·repeat (first|(with_reducible exact u.o)|(with_reducible refine eF ?_ ?_)|(with_reducible refine aG ?_ ?_) | omega|(simp;omega))
 ·refine dR.one (T:=169) ?_
  repeat (first|(with_reducible refine bf.far ?_ ?_ _) | exact E.o|(simp;omega))
theorem Wo (x:Bs)(n a:Int)(D:Option Addr)(L F:Nat)(w:World):Calls Tryz.prog 132 #[.agg #[.int .u8 40,.string (aH x),.int .i64 n,.slice D L F,.int .i64 a]] w (eu (Mist.shapeOf 40 n) w):=by
 go_in
 go_wp2_with fail;refine (aO _ _).mono ?_;rintro e w1⟨rfl,g⟩;go_wp2_with fail;refine (aO _ _).mono ?_;rintro e P⟨rfl,h⟩;go_wp2_with fail;refine (aO _ _).mono ?_;rintro e Q⟨rfl,i⟩;have t:=O (fu g h i);have I:=t.o.1;clear g h i;go_upto_region 5 with (fail)
 obtain⟨R,A,c,B,J,S,G,U,-⟩:=t.o.2;rw [A];clear A I t;have M:=B.o.cell 0;have N:=B.o.cell 2;have j:=c.o.cell 0;have k:=c.o.cell 1;have l:=c.o.cell 2;have m:=c.o.cell 3;have r0:=c.o.frozen 0;have r1:=c.o.frozen 1;have r2:=c.o.frozen 2;have r:=c.o.frozen 3;go_wp2_with fail;refine (ZI _ _).mono ?_;rintro e y⟨rfl,f⟩;have b:=O (show bf y (w.heap.size+1) 150 #[.bool false,.int .i64 0,.int .i64 0,.slice none 0 0] from bf.below (by repeat (first|(with_reducible exact c.o)|(with_reducible refine bf.alloc ?_ _))) f (by first | omega|(simp;omega)));have K:=O (show Below w.heap.size w y from Below.trans (by repeat (first|(with_reducible exact J.o)|(with_reducible refine eF ?_ ?_)|(with_reducible refine aG ?_ ?_) | omega|(simp;omega))) (f.mono (by first | omega|(simp;omega))));clear f;clear j k l m r0 r1 r2 r;have j:=b.o.cell 0;have k:=b.o.cell 1;have l:=b.o.cell 2;have m:=b.o.cell 3;have r0:=b.o.frozen 0;have r1:=b.o.frozen 1;have r2:=b.o.frozen 2;have r:=b.o.frozen 3;have H:=b.o.lt;go_wp2_with fail;refine (mq _ _ _ _).mono ?_;rintro e C⟨rfl,q⟩;have E:=O (gW q);have d:=O (show bf C (w.heap.size+1) 150 #[.bool false,.int .i64 0,.int .i64 0,.slice none 0 0] from bf.below (by repeat (first|(with_reducible exact b.o)|(with_reducible refine bf.alloc ?_ _))) q (by first | omega|(simp;omega)));have u:=O (show Below w.heap.size w C from Below.trans (by repeat (first|(with_reducible exact K.o)|(with_reducible refine eF ?_ ?_)|(with_reducible refine aG ?_ ?_) | omega|(simp;omega))) (q.mono (by first | omega|(simp;omega))));clear q;clear j k l m r0 r1 r2 r;have j:=d.o.cell 0;have k:=d.o.cell 1;have l:=d.o.cell 2;have m:=d.o.cell 3;have r0:=d.o.frozen 0;have r1:=d.o.frozen 1;have r2:=d.o.frozen 2;have r:=d.o.frozen 3;go_wp2_with fail;refine bodyPost_ret (v:=.tuple #[.agg #[.bool true,.int .i64 0,.int .i64 0,.slice (some ⟨y.heap.size,0,none⟩) 1 1],.bool true]) (by simp [results,Tryz.f132,go_sem,j,k,l,m]) rfl ?_
 refine⟨_,_,_,_,_,_,_,rfl,?_,rfl,rfl,rfl,rfl,rfl,ak0 _,?_⟩
 ·repeat (first|(with_reducible exact u.o)|(with_reducible refine eF ?_ ?_)|(with_reducible refine aG ?_ ?_) | omega|(simp;omega))
 ·refine dR.one (T:=169) ?_
  repeat (first|(with_reducible refine bf.far ?_ ?_ _) | exact E.o|(simp;omega))
theorem Wm (x:Bs)(n a:Int)(A:Option Addr)(G B:Nat)(w:World):Calls Tryz.prog 132 #[.agg #[.int .u8 33,.string (aH x),.int .i64 n,.slice A G B,.int .i64 a]] w (eu (Mist.shapeOf 33 n) w):=by
 go_in
 go_wp2_with fail;refine (aO _ _).mono ?_;rintro e w1⟨rfl,f⟩;go_wp2_with fail;refine (aO _ _).mono ?_;rintro e J⟨rfl,g⟩;go_wp2_with fail;refine (aO _ _).mono ?_;rintro e K⟨rfl,h⟩;have i:=O (fu f g h);have D:=i.o.1;clear f g h;go_upto_region 5 with (fail)
 obtain⟨L,t,b,u,E,M,C,N,-⟩:=i.o.2;rw [t];clear t D i;have H:=u.o.cell 0;have I:=u.o.cell 2;have k:=b.o.cell 0;have l:=b.o.cell 1;have m:=b.o.cell 2;have q:=b.o.cell 3;have r0:=b.o.frozen 0;have r1:=b.o.frozen 1;have r2:=b.o.frozen 2;have y:=b.o.frozen 3;go_wp2_with fail;refine (L_ _ _).mono ?_;rintro e r⟨rfl,d⟩;have c:=O (show bf r (w.heap.size+1) 150 #[.bool false,.int .i64 0,.int .i64 0,.slice none 0 0] from bf.below (by repeat (first|(with_reducible exact b.o)|(with_reducible refine bf.alloc ?_ _))) d (by first | omega|(simp;omega)));have F:=O (show Below w.heap.size w r from Below.trans (by repeat (first|(with_reducible exact E.o)|(with_reducible refine eF ?_ ?_)|(with_reducible refine aG ?_ ?_) | omega|(simp;omega))) (d.mono (by first | omega|(simp;omega))));clear d;clear k l m q r0 r1 r2 y;have k:=c.o.cell 0;have l:=c.o.cell 1;have m:=c.o.cell 2;have q:=c.o.cell 3;have r0:=c.o.frozen 0;have r1:=c.o.frozen 1;have r2:=c.o.frozen 2;have y:=c.o.frozen 3;have j:=c.o.lt;go_wp2_with fail;refine bodyPost_ret (v:=.tuple #[.agg #[.bool false,.int .i64 (-9223372036854775808),.int .i64 9223372036854775807,.slice (some ⟨r.heap.size,0,none⟩) 1 1],.bool true]) (by simp [results,Tryz.f132,go_sem,k,l,m,q,j]) rfl ?_
 refine⟨_,_,_,_,_,_,_,rfl,?_,rfl,rfl,rfl,rfl,rfl,ak0 _,?_⟩
 ·repeat (first|(with_reducible exact F.o)|(with_reducible refine eF ?_ ?_)|(with_reducible refine aG ?_ ?_) | omega|(simp;omega))
 ·refine dR.one (T:=169) ?_;exact u_ (by simp)
theorem dR.far {w:World}{A:Option Addr}{ps:List Part}(h:dR w A ps){g i:Nat}{u:Value}(m:∀ b,A=some ⟨b,0,none⟩→b ≠ g):dR (w.setCell ⟨g,i,none⟩ u) A ps :=
 ⟨fun h0=>by
  obtain⟨b,e,l,f⟩:=h.ex h0;have c:=m b e
  refine⟨b,e,by simpa [World.setCell] using l,fun j p k=>?_⟩
  have a:∀ o,(w.setCell ⟨g,i,none⟩ u).cell? ⟨b,o,none⟩=w.cell? ⟨b,o,none⟩:=fun o=>World.cell?_setCell_other _ _ _ _ (fun d=>c (congrArg Addr.block d).symm)
  rw [a,a,a];exact f j p k⟩
def Cj (q:Int)(w:World)(e:Ending)(w':World):Prop :=
 ∃ A c,e=.returned (.agg #[.bool false,.int .i64 1,.int .i64 8,.slice A (Mist.asked q).parts.length c])∧(Mist.asked q).parts.length≤c∧dR w' A (Mist.asked q).parts∧(∀ b,A=some ⟨b,0,none⟩→w.heap.size≤b)∧Below w.heap.size w w'
theorem abN (w:World):Calls Tryz.prog 167 #[.int .i64 7] w (Cj 7 w):=by
 go_in
 go_wp2_with fail;refine (aO _ _).mono ?_;rintro e w1⟨rfl,c⟩;have a:=O (gW c);have n:=O ((aG (Below.refl w.heap.size w) (ak0 _) (o:=.cells #[.bool false,.int .i64 0,.int .i64 0,.slice none 0 0] 150)).trans (c.mono (by simp)));clear c;have j:=a.o.cell 0;have k:=a.o.cell 1;have l:=a.o.cell 2;have m:=a.o.cell 3;have r0:=a.o.frozen 0;have r1:=a.o.frozen 1;have r2:=a.o.frozen 2;have q:=a.o.frozen 3;have d:=a.o.lt;have f:w.heap.size < w1.heap.size+1:=by omega
 have g:w.heap.size < w1.heap.size+1+1:=by omega
 have i:w.heap.size < w1.heap.size+1+1+1:=by omega
 go_wp2_with fail;refine bodyPost_ret (v:=.agg #[.bool false,.int .i64 1,.int .i64 8,.slice none 0 0]) (by simp [results,Tryz.f167,go_sem,j,k,l,m,d,f]) rfl ?_
 refine⟨none,0,rfl,ak0 _,dR.nil _,(fun b h=>nomatch h),?_⟩
 repeat (first|(with_reducible exact n.o)|(with_reducible refine eF ?_ ?_)|(with_reducible refine aG ?_ ?_) | omega|(simp;omega))
theorem abO (w:World):Calls Tryz.prog 167 #[.int .i64 8] w (Cj 8 w):=by
 have c:=O (show (Mist.asked 8).parts=[⟨1,801,.expr⟩] from rfl);go_in
 go_wp2_with fail;refine (aO _ _).mono ?_;rintro e w1⟨rfl,d⟩;have a:=O (gW d);have q:=O ((aG (Below.refl w.heap.size w) (ak0 _) (o:=.cells #[.bool false,.int .i64 0,.int .i64 0,.slice none 0 0] 150)).trans (d.mono (by simp)));clear d;have k:=a.o.cell 0;have l:=a.o.cell 1;have m:=a.o.cell 2;have n:=a.o.cell 3;have r0:=a.o.frozen 0;have r1:=a.o.frozen 1;have r2:=a.o.frozen 2;have r:=a.o.frozen 3;have f:=a.o.lt;have g:w.heap.size < w1.heap.size+1:=by omega
 have i:w.heap.size < w1.heap.size+1+1:=by omega
 have j:w.heap.size < w1.heap.size+1+1+1:=by omega
 go_wp2_with fail;refine bodyPost_ret (v:=.agg #[.bool false,.int .i64 1,.int .i64 8,.slice (some ⟨w1.heap.size+1+1,0,none⟩) 1 1]) (by simp [results,Tryz.f167,go_sem,k,l,m,n,f,g,i]) rfl ?_
 refine⟨some ⟨w1.heap.size+1+1,0,none⟩,1,by rw [c.o];rfl,by rw [c.o];exact ak0 _,?_,?_,?_⟩
 ·rw [c.o];refine dR.one (T:=169) ?_;exact u_ (by simp)
 ·intro b h;injection h with h;injection h with h;omega
 ·repeat (first|(with_reducible exact q.o)|(with_reducible refine eF ?_ ?_)|(with_reducible refine aG ?_ ?_) | omega|(simp;omega))
theorem abP (q:Int)(h7:¬ q=7)(h8:¬ q=8)(w:World):Calls Tryz.prog 167 #[.int .i64 q] w (Cj q w):=by
 have t:(q == 7)=false:=by simpa using h7
 have u:(q == 8)=false:=by simpa using h8
 have c:=O (show (Mist.asked q).parts=[⟨1,1,.expr⟩] by simp [Mist.asked,h7,h8]);go_in
 go_wp2_with fail;refine (aO _ _).mono ?_;rintro e w1⟨rfl,d⟩;have a:=O (gW d);have r:=O ((aG (Below.refl w.heap.size w) (ak0 _) (o:=.cells #[.bool false,.int .i64 0,.int .i64 0,.slice none 0 0] 150)).trans (d.mono (by simp)));clear d;have k:=a.o.cell 0;have l:=a.o.cell 1;have m:=a.o.cell 2;have n:=a.o.cell 3;have r0:=a.o.frozen 0;have r1:=a.o.frozen 1;have r2:=a.o.frozen 2;have x:=a.o.frozen 3;have f:=a.o.lt;have g:w.heap.size < w1.heap.size+1:=by omega
 have i:w.heap.size < w1.heap.size+1+1:=by omega
 have j:w.heap.size < w1.heap.size+1+1+1:=by omega
 go_wp2_with fail;refine bodyPost_ret (v:=.agg #[.bool false,.int .i64 1,.int .i64 8,.slice (some ⟨w1.heap.size,0,none⟩) 1 1]) (by simp [results,Tryz.f167,go_sem,k,l,m,n,f,g]) rfl ?_
 refine⟨some ⟨w1.heap.size,0,none⟩,1,by rw [c.o];rfl,by rw [c.o];exact ak0 _,?_,?_,?_⟩
 ·rw [c.o];refine dR.one (T:=169) ?_;exact bf.alloc (u_ (by simp)) _
 ·intro b h;injection h with h;injection h with h;omega
 ·repeat (first|(with_reducible exact r.o)|(with_reducible refine eF ?_ ?_)|(with_reducible refine aG ?_ ?_) | omega|(simp;omega))
theorem TI (q:Int)(w:World):Calls Tryz.prog 167 #[.int .i64 q] w (Cj q w):=by
 by_cases h7:q=7
 ·subst h7;exact abN w
 ·by_cases h8:q=8
  ·subst h8;exact abO w
  ·exact abP q h7 h8 w
theorem Wv (x:Bs)(n a:Int)(H:Option Addr)(Q K:Nat)(w:World):Calls Tryz.prog 132 #[.agg #[.int .u8 46,.string (aH x),.int .i64 n,.slice H Q K,.int .i64 a]] w (eu (Mist.shapeOf 46 n) w):=by
 go_in
 go_wp2_with fail;refine (aO _ _).mono ?_;rintro e w1⟨rfl,i⟩;go_wp2_with fail;refine (aO _ _).mono ?_;rintro e T⟨rfl,j⟩;go_wp2_with fail;refine (aO _ _).mono ?_;rintro e U⟨rfl,k⟩;have r:=O (fu i j k);have M:=r.o.1;clear i j k;go_upto_region 5 with (fail)
 obtain⟨V,D,d,E,N,W,L,X,-⟩:=r.o.2;rw [D];clear D M r;have R:=E.o.cell 0;have S:=E.o.cell 2;have y:=d.o.cell 0;have A:=d.o.cell 1;have B:=d.o.cell 2;have C:=d.o.cell 3;have r0:=d.o.frozen 0;have r1:=d.o.frozen 1;have r2:=d.o.frozen 2;have F:=d.o.frozen 3;go_wp2_with fail;refine (TI _ _).mono ?_;rintro e G⟨q,c4,rfl,l,m,c,g⟩;have t:=O m;have J:=O (show ∀ b,q=some ⟨b,0,none⟩→b ≠ w.heap.size+1 from fun b h=>by have h9:=c b h;omega);clear m c;have f:=O (show bf G (w.heap.size+1) 150 #[.bool false,.int .i64 0,.int .i64 0,.slice none 0 0] from bf.below (by repeat (first|(with_reducible exact d.o)|(with_reducible refine bf.alloc ?_ _))) g (by first | omega|(simp;omega)));have P:=O (show Below w.heap.size w G from Below.trans (by repeat (first|(with_reducible exact N.o)|(with_reducible refine eF ?_ ?_)|(with_reducible refine aG ?_ ?_) | omega|(simp;omega))) (g.mono (by first | omega|(simp;omega))));clear g;clear y A B C r0 r1 r2 F;have y:=f.o.cell 0;have A:=f.o.cell 1;have B:=f.o.cell 2;have C:=f.o.cell 3;have r0:=f.o.frozen 0;have r1:=f.o.frozen 1;have r2:=f.o.frozen 2;have F:=f.o.frozen 3;obtain⟨u,c⟩:∃ u,u=(Mist.asked n).parts.length:=⟨_,rfl⟩;rw [← c] at l ⊢
 have I:=O c;clear c;go_wp2_with fail;refine bodyPost_ret (v:=.tuple #[.agg #[.bool false,.int .i64 1,.int .i64 8,.slice q u c4],.bool true]) (by simp [results,Tryz.f132,go_sem,y,A,B,C]) rfl ?_
 refine⟨_,_,_,q,_,_,_,rfl,?_,rfl,rfl,rfl,rfl,I.o,l,?_⟩
 ·repeat (first|(with_reducible exact P.o)|(with_reducible refine eF ?_ ?_)|(with_reducible refine aG ?_ ?_) | omega|(simp;omega))
 ·repeat (first|(with_reducible refine dR.far ?_ J.o) | exact t.o)
theorem dR.three {w:World}{b:Nat}{p q r:Part}(h:bf w b 169 (Sw p ++ Sw q ++ Sw r).toArray):dR w (some ⟨b,0,none⟩) [p,q,r]:=by
 refine⟨fun _=>⟨b,rfl,h.lt,fun j x a=>?_⟩⟩
 match j,a with
 | 0, a =>  obtain rfl : p = x := by simpa using a
            exact⟨h.cell 0,h.cell 1,h.cell 2⟩
 | 1, a =>  obtain rfl : q = x := by simpa using a
            exact⟨h.cell 3,h.cell 4,h.cell 5⟩
 | 2, a =>  obtain rfl : r = x := by simpa using a
            exact⟨h.cell 6,h.cell 7,h.cell 8⟩
 | j+3,a=>simp at a
theorem Qd (n:Int)(w:World):Calls Tryz.prog 159 #[.int .i64 n,.func (.func 164) #[] #[]] w fun e a=>e=.returned (.agg #[.int .i64 n,.int .i64 n,.func (.func 164) #[] #[]])∧a=w.alloc (.cells #[.int .i64 n,.int .i64 n,.func (.func 164) #[] #[]] 169):=by
 go_in
 go_wp2;exact bodyPost_ret (v:=.agg #[.int .i64 n,.int .i64 n,.func (.func 164) #[] #[]]) (by simp [results,Tryz.f159,go_sem]) rfl ⟨rfl,rfl⟩
theorem Wq (x:Bs)(n a:Int)(l:Option Addr)(t m:Nat)(w:World):Calls Tryz.prog 132 #[.agg #[.int .u8 42,.string (aH x),.int .i64 n,.slice l t m,.int .i64 a]] w (eu (Mist.shapeOf 42 n) w):=by
 go_in
 go_wp2_with fail;refine (aO _ _).mono ?_;rintro e w1⟨rfl,c⟩;go_wp2_with fail;refine (aO _ _).mono ?_;rintro e L⟨rfl,d⟩;go_wp2_with fail;refine (aO _ _).mono ?_;rintro e M⟨rfl,f⟩;have h:=O (fu c d f);have q:=h.o.1;clear c d f;go_upto_region 5 with (fail)
 obtain⟨C,j,b,k,r,P,i,D,g,-,-,-,-⟩:=h.o.2;rw [j];clear j q h;have F:=g.o.cell 0;have G:=g.o.cell 1;have H:=g.o.cell 2;have E:=g.o.lt;have I:=k.o.cell 0;have J:=k.o.cell 2;have u:=b.o.cell 0;have y:=b.o.cell 1;have A:=b.o.cell 2;have B:=b.o.cell 3;have r0:=b.o.frozen 0;have r1:=b.o.frozen 1;have r2:=b.o.frozen 2;have K:=b.o.frozen 3;go_wp2_with fail;go_region_with ((refine (Qd _ _).mono ?_;rintro e N⟨rfl,rfl⟩))
 all_goals
  go_wp2_with fail;refine bodyPost_ret (v:=.tuple #[.agg #[.bool true,.int .i64 0,.int .i64 9223372036854775807,.slice (some ⟨C.heap.size+1,0,none⟩) 3 3],.bool true]) (by simp [results,Tryz.f132,go_sem,u,y,A,B,i,D]) rfl ?_
  refine⟨_,_,_,_,_,_,_,rfl,?_,rfl,rfl,rfl,rfl,rfl,ak0 _,?_⟩
  ·refine Below.drew ?_
   repeat (first|(with_reducible exact r.o)|(with_reducible refine eF ?_ ?_)|(with_reducible refine aG ?_ ?_) | omega|(simp;omega))
  ·refine dR.three ?_;refine bf.drew ?_;exact u_ (by simp)
theorem V7 (x:Bs)(n a:Int)(C:Option Addr)(F D:Nat)(w:World):Calls Tryz.prog 132 #[.agg #[.int .u8 23,.string (aH x),.int .i64 n,.slice C F D,.int .i64 a]] w (eu (Mist.shapeOf 23 n) w):=by
 have M:=O (show Mist.shapeOf 23 n=some ⟨false,0,0,[⟨2,2,.expr⟩]⟩ from rfl);go_in
 go_wp2_with fail;refine (aO _ _).mono ?_;rintro e w1⟨rfl,g⟩;go_wp2_with fail;refine (aO _ _).mono ?_;rintro e w2⟨rfl,h⟩;go_wp2_with fail;refine (aO _ _).mono ?_;rintro e j⟨rfl,i⟩;have q:=O (fu g h i);have V:=q.o.1;clear g h i;go_upto_region 5 with (fail)
 obtain⟨L,E,c,k,W,wZ,S,zB,-,f,-,-,-⟩:=q.o.2;rw [E];clear E V q;have G:=f.o.cell 0;have H:=f.o.cell 1;have I:=f.o.cell 2;have Z:=f.o.lt;have J:=k.o.cell 0;have Y:=k.o.cell 2;have u:=c.o.cell 0;have y:=c.o.cell 1;have A:=c.o.cell 2;have B:=c.o.cell 3;have r0:=c.o.frozen 0;have r1:=c.o.frozen 1;have r2:=c.o.frozen 2;have K:=c.o.frozen 3;go_wp2_with fail;have Q:=k.o.lt;have P:w.heap.size ≠ j.heap.size:=fun e=>c.o.ne_ f.o (by decide) (by rw [e])
 go_region_held3 (fun l=>l.cell? ⟨w.heap.size,0,none⟩=some (.int .u8 23)∧l.cell? ⟨j.heap.size+1,0,none⟩=some (.int .i64 2)∧l.cell? ⟨j.heap.size+1,1,none⟩=some (.int .i64 2)∧l.cell? ⟨j.heap.size+1,2,none⟩=some (.func (.func 160) #[] #[]))
  (first | go_keep|(go_split_ands;refine⟨?_,?_,?_,?_⟩ <;> assumption)|(go_split_ands;refine⟨?_,?_,?_,?_⟩ <;> go_keep))
  ((go_at_call 161;refine (rE _ _ _ _).mono ?_;rintro e m⟨rfl,b⟩;have N:=O b;have r:=O (show bf m w.heap.size 50 #[.int .u8 23,.string (aH x),.int .i64 n,.slice C F D,.int .i64 a] from bf.below (by repeat (first|(with_reducible exact k.o)|(with_reducible refine bf.alloc ?_ _)|(with_reducible refine bf.drew ?_))) b (by first | omega|(simp;omega)));have t:=O (show bf m (j.heap.size+1) 169 #[.int .i64 2,.int .i64 2,.func (.func 160) #[] #[]] from bf.below (by repeat (first|(with_reducible exact f.o)|(with_reducible refine bf.alloc ?_ _)|(with_reducible refine bf.drew ?_))) b (by first | omega|(simp;omega)));have d:=O (show bf m (w.heap.size+1) 150 #[.bool false,.int .i64 0,.int .i64 0,.slice none 0 0] from bf.below (by repeat (first|(with_reducible exact c.o)|(with_reducible refine bf.alloc ?_ _)|(with_reducible refine bf.drew ?_))) b (by first | omega|(simp;omega)));have X:=O (show Below w.heap.size w m from Below.trans (by repeat (first|(with_reducible exact W.o)|(with_reducible refine aG ?_ ?_)|(with_reducible refine Below.drew ?_) | omega|(simp;omega))) (b.mono (by first | omega|(simp;omega))));clear b J Y u y A B r0 r1 r2 K G H I;have J:=r.o.cell 0;have G:=t.o.cell 0;have H:=t.o.cell 1;have I:=t.o.cell 2;have u:=d.o.cell 0;have y:=d.o.cell 1;have A:=d.o.cell 2;have B:=d.o.cell 3;have r0:=d.o.frozen 0;have r1:=d.o.frozen 1;have r2:=d.o.frozen 2;have K:=d.o.frozen 3;have U:=d.o.lt))
 all_goals
  go_wp2_with fail;refine bodyPost_ret (v:=.tuple #[.agg #[.bool false,.int .i64 0,.int .i64 0,.slice (some ⟨L.heap.size,0,none⟩) 1 1],.bool true]) (by simp [results,Tryz.f132,go_sem,u,y,A,B]) rfl ?_
  refine⟨_,_,_,_,_,_,_,rfl,?_,?_⟩
  ·repeat (first|(with_reducible exact X.o)|(with_reducible refine eF ?_ ?_)|(with_reducible refine aG ?_ ?_)|(with_reducible refine Below.drew ?_) | omega|(simp;omega))
  ·rw [M.o]
   refine⟨rfl,rfl,rfl,rfl,rfl,ak0 _,?_⟩
   refine dR.one (T:=169) ?_;have R:=(bf.drew (bf.new L 169 #[.int .i64 2,.int .i64 2,.func (.func 160) #[] #[]])).below N.o (by simp)
   repeat (first|(with_reducible refine bf.far ?_ ?_ _)|(with_reducible refine bf.drew ?_) | exact R|(simp;omega))
theorem Q0 (k:Nat)(x:Bs)(n a:Int)(E:Option Addr)(H F:Nat)(w:World)(h:(27≤k∧k≤29)∨(35≤k∧k≤39)∨47≤k):Calls Tryz.prog 132 #[.agg #[.int .u8 k,.string (aH x),.int .i64 n,.slice E H F,.int .i64 a]] w (eu (Mist.shapeOf k n) w):=by
 have e1:((k:Int) == 1)=false:=by rw [akW];omega
 have e2:((k:Int) == 2)=false:=by rw [akW];omega
 have e3:((k:Int) == 3)=false:=by rw [akW];omega
 have Z:((k:Int) == 32)=false:=by rw [akW];omega
 have e45:((k:Int) == 45)=false:=by rw [akW];omega
 have e4:((k:Int) == 4)=false:=by rw [akW];omega
 have e5:((k:Int) == 5)=false:=by rw [akW];omega
 have Q:((k:Int) == 19)=false:=by rw [akW];omega
 have R:((k:Int) == 20)=false:=by rw [akW];omega
 have S:((k:Int) == 21)=false:=by rw [akW];omega
 have T:((k:Int) == 22)=false:=by rw [akW];omega
 have V:((k:Int) == 25)=false:=by rw [akW];omega
 have e43:((k:Int) == 43)=false:=by rw [akW];omega
 have e44:((k:Int) == 44)=false:=by rw [akW];omega
 have U:((k:Int) == 24)=false:=by rw [akW];omega
 have W:((k:Int) == 26)=false:=by rw [akW];omega
 have X:((k:Int) == 30)=false:=by rw [akW];omega
 have Y:((k:Int) == 31)=false:=by rw [akW];omega
 have e33:((k:Int) == 33)=false:=by rw [akW];omega
 have e34:((k:Int) == 34)=false:=by rw [akW];omega
 have e40:((k:Int) == 40)=false:=by rw [akW];omega
 have e41:((k:Int) == 41)=false:=by rw [akW];omega
 have e42:((k:Int) == 42)=false:=by rw [akW];omega
 have e46:((k:Int) == 46)=false:=by rw [akW];omega
 have a1:decide ((6:Int)≤(k:Int))=true:=ak' (by omega);have a2:decide ((k:Int)≤(18:Int))=false:=ala (by omega);have N:=O (show Mist.shapeOf k n=none from (by unfold Mist.shapeOf;repeat (first | rw [if_neg (by omega)] | rw [if_pos (by omega)])));have P:((k:Int) == 23)=false:=by rw [akW];omega
 go_in
 go_wp2_with fail;refine (aO _ _).mono ?_;rintro e w1⟨rfl,g⟩;go_wp2_with fail;refine (aO _ _).mono ?_;rintro e w2⟨rfl,i⟩;go_wp2_with fail;refine (aO _ _).mono ?_;rintro e l⟨rfl,j⟩;have t:=O (fu g i j);have hz:=t.o.1;clear g i j;go_upto_region 5 with (fail)
 obtain⟨w5,G,c,m,kQ,wZ,hs7,zB,-,f,-,-,-⟩:=t.o.2;rw [G];clear G hz t;have I:=f.o.cell 0;have J:=f.o.cell 1;have K:=f.o.cell 2;have R4:=f.o.lt;have L:=m.o.cell 0;have p2:=m.o.cell 2;have A:=c.o.cell 0;have B:=c.o.cell 1;have C:=c.o.cell 2;have D:=c.o.cell 3;have r0:=c.o.frozen 0;have r1:=c.o.frozen 1;have r2:=c.o.frozen 2;have M:=c.o.frozen 3;go_wp2_with fail;have hp5:=m.o.lt;have hne:w.heap.size ≠ l.heap.size:=fun e=>c.o.ne_ f.o (by decide) (by rw [e])
 go_region_held3 (fun q=>q.cell? ⟨w.heap.size,0,none⟩=some (.int .u8 k)∧q.cell? ⟨l.heap.size+1,0,none⟩=some (.int .i64 2)∧q.cell? ⟨l.heap.size+1,1,none⟩=some (.int .i64 2)∧q.cell? ⟨l.heap.size+1,2,none⟩=some (.func (.func 160) #[] #[]))
  (first | go_keep|(go_split_ands;refine⟨?_,?_,?_,?_⟩ <;> assumption)|(go_split_ands;refine⟨?_,?_,?_,?_⟩ <;> go_keep))
  ((go_at_call 161;refine (rE _ _ _ _).mono ?_;rintro e r⟨rfl,b⟩;have Rs:=O b;have u:=O (show bf r w.heap.size 50 #[.int .u8 k,.string (aH x),.int .i64 n,.slice E H F,.int .i64 a] from bf.below (by repeat (first|(with_reducible exact m.o)|(with_reducible refine bf.alloc ?_ _)|(with_reducible refine bf.drew ?_))) b (by first | omega|(simp;omega)));have y:=O (show bf r (l.heap.size+1) 169 #[.int .i64 2,.int .i64 2,.func (.func 160) #[] #[]] from bf.below (by repeat (first|(with_reducible exact f.o)|(with_reducible refine bf.alloc ?_ _)|(with_reducible refine bf.drew ?_))) b (by first | omega|(simp;omega)));have d:=O (show bf r (w.heap.size+1) 150 #[.bool false,.int .i64 0,.int .i64 0,.slice none 0 0] from bf.below (by repeat (first|(with_reducible exact c.o)|(with_reducible refine bf.alloc ?_ _)|(with_reducible refine bf.drew ?_))) b (by first | omega|(simp;omega)));have mP:=O (show Below w.heap.size w r from Below.trans (by repeat (first|(with_reducible exact kQ.o)|(with_reducible refine aG ?_ ?_)|(with_reducible refine Below.drew ?_) | omega|(simp;omega))) (b.mono (by first | omega|(simp;omega))));clear b L p2 A B C D r0 r1 r2 M I J K;have L:=u.o.cell 0;have I:=y.o.cell 0;have J:=y.o.cell 1;have K:=y.o.cell 2;have A:=d.o.cell 0;have B:=d.o.cell 1;have C:=d.o.cell 2;have D:=d.o.cell 3;have r0:=d.o.frozen 0;have r1:=d.o.frozen 1;have r2:=d.o.frozen 2;have M:=d.o.frozen 3;have hs9:=d.o.lt))
 all_goals
  go_wp2_with fail;refine bodyPost_ret (v:=.tuple #[.agg #[.bool false,.int .i64 0,.int .i64 0,.slice (some ⟨w5.heap.size,0,none⟩) 1 1],.bool false]) (by simp [results,Tryz.f132,go_sem,A,B,C,D]) rfl ?_
  refine⟨_,_,_,_,_,_,_,rfl,?_,?_⟩
  ·repeat (first|(with_reducible exact mP.o)|(with_reducible refine eF ?_ ?_)|(with_reducible refine aG ?_ ?_)|(with_reducible refine Below.drew ?_) | omega|(simp;omega))
  ·rw [N.o]
