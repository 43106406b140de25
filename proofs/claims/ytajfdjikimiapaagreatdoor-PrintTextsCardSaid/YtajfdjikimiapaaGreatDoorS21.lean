/-
  A part of the proof.
-/
import Derived.Test.YtajfdjikimiapaaGreatDoorS20
set_option linter.all false
set_option maxRecDepth 100000
set_option maxHeartbeats 4000000
namespace Go.Proofs.YtajfdjikimiapaaGreatDoor
open Go.RowKit Mist
attribute [local go_sem] au aN aV aM aG
theorem Uf (x:Bs)(n a:Int)(y:Option Addr)(G B:Nat)(w:World):Calls Tryz.prog 158 #[.agg #[.int .u8 21,.string (aU x),.int .i64 n,.slice y G B,.int .i64 a]] w (dH (Mist.shapeOf 21 n) w):=by
 go_in
 go_wp2_with fail;refine (aQ _ _).mono ?_;rintro e w1⟨rfl,f⟩;go_wp2_with fail;refine (aQ _ _).mono ?_;rintro e M⟨rfl,g⟩;go_wp2_with fail;refine (aQ _ _).mono ?_;rintro e N⟨rfl,h⟩;have j:=O (dY f g h);have D:=j.o.1;clear f g h;go_upto_region 5 with (fail)
 obtain⟨H,r,b,t,F,L,C,P,-,-,-,i,-⟩:=j.o.2;rw [r];clear r D j;have o0:=i.o.cell 0;have o1:=i.o.cell 1;have o2:=i.o.cell 2;have I:=i.o.lt;have J:=t.o.cell 0;have K:=t.o.cell 2;have k:=b.o.cell 0;have l:=b.o.cell 1;have m:=b.o.cell 2;have q:=b.o.cell 3;have r0:=b.o.frozen 0;have r1:=b.o.frozen 1;have r2:=b.o.frozen 2;have r3:=b.o.frozen 3;go_wp2_with fail;refine (kY _ _ _ _).mono ?_;rintro e u⟨rfl,c⟩;have A:=O (gB c);have d:=O (show aZ u (w.heap.size+1) 172 #[.bool false,.int .i64 0,.int .i64 0,.slice none 0 0] from aZ.below (by repeat (first|(with_reducible exact b.o)|(with_reducible refine aZ.alloc ?_ _))) c (by first | omega|(simp;omega)));have E:=O (show Below w.heap.size w u from Below.trans (by repeat (first|(with_reducible exact F.o)|(with_reducible refine dS ?_ ?_)|(with_reducible refine aF ?_ ?_) | omega|(simp;omega))) (c.mono (by first | omega|(simp;omega))));clear c;clear k l m q r0 r1 r2 r3;have k:=d.o.cell 0;have l:=d.o.cell 1;have m:=d.o.cell 2;have q:=d.o.cell 3;have r0:=d.o.frozen 0;have r1:=d.o.frozen 1;have r2:=d.o.frozen 2;have r3:=d.o.frozen 3;go_wp2_with fail;refine bodyPost_ret (v:=.tuple #[.agg #[.bool true,.int .i64 0,.int .i64 0,.slice (some ⟨H.heap.size,0,none⟩) 1 1],.bool true]) (by simp [results,Tryz.f158,go_sem,k,l,m,q]) rfl ?_
 refine⟨_,_,_,_,_,_,_,rfl,?_,rfl,rfl,rfl,rfl,rfl,aiv _,?_⟩
 ·repeat (first|(with_reducible exact E.o)|(with_reducible refine dS ?_ ?_)|(with_reducible refine aF ?_ ?_) | omega|(simp;omega))
 ·refine dw.one (T:=189) ?_
  repeat (first|(with_reducible refine aZ.far ?_ ?_ _) | exact A.o|(simp;omega))
theorem Ug (x:Bs)(n a:Int)(y:Option Addr)(G B:Nat)(w:World):Calls Tryz.prog 158 #[.agg #[.int .u8 22,.string (aU x),.int .i64 n,.slice y G B,.int .i64 a]] w (dH (Mist.shapeOf 22 n) w):=by
 go_in
 go_wp2_with fail;refine (aQ _ _).mono ?_;rintro e w1⟨rfl,f⟩;go_wp2_with fail;refine (aQ _ _).mono ?_;rintro e M⟨rfl,g⟩;go_wp2_with fail;refine (aQ _ _).mono ?_;rintro e N⟨rfl,h⟩;have j:=O (dY f g h);have D:=j.o.1;clear f g h;go_upto_region 5 with (fail)
 obtain⟨H,r,b,t,F,L,C,P,i,-,-,-,-⟩:=j.o.2;rw [r];clear r D j;have o0:=i.o.cell 0;have o1:=i.o.cell 1;have o2:=i.o.cell 2;have I:=i.o.lt;have J:=t.o.cell 0;have K:=t.o.cell 2;have k:=b.o.cell 0;have l:=b.o.cell 1;have m:=b.o.cell 2;have q:=b.o.cell 3;have r0:=b.o.frozen 0;have r1:=b.o.frozen 1;have r2:=b.o.frozen 2;have r3:=b.o.frozen 3;go_wp2_with fail;refine (kY _ _ _ _).mono ?_;rintro e u⟨rfl,c⟩;have A:=O (gB c);have d:=O (show aZ u (w.heap.size+1) 172 #[.bool false,.int .i64 0,.int .i64 0,.slice none 0 0] from aZ.below (by repeat (first|(with_reducible exact b.o)|(with_reducible refine aZ.alloc ?_ _))) c (by first | omega|(simp;omega)));have E:=O (show Below w.heap.size w u from Below.trans (by repeat (first|(with_reducible exact F.o)|(with_reducible refine dS ?_ ?_)|(with_reducible refine aF ?_ ?_) | omega|(simp;omega))) (c.mono (by first | omega|(simp;omega))));clear c;clear k l m q r0 r1 r2 r3;have k:=d.o.cell 0;have l:=d.o.cell 1;have m:=d.o.cell 2;have q:=d.o.cell 3;have r0:=d.o.frozen 0;have r1:=d.o.frozen 1;have r2:=d.o.frozen 2;have r3:=d.o.frozen 3;go_wp2_with fail;refine bodyPost_ret (v:=.tuple #[.agg #[.bool true,.int .i64 0,.int .i64 0,.slice (some ⟨H.heap.size,0,none⟩) 1 1],.bool true]) (by simp [results,Tryz.f158,go_sem,k,l,m,q]) rfl ?_
 refine⟨_,_,_,_,_,_,_,rfl,?_,rfl,rfl,rfl,rfl,rfl,aiv _,?_⟩
 ·repeat (first|(with_reducible exact E.o)|(with_reducible refine dS ?_ ?_)|(with_reducible refine aF ?_ ?_) | omega|(simp;omega))
 ·refine dw.one (T:=189) ?_
  repeat (first|(with_reducible refine aZ.far ?_ ?_ _) | exact A.o|(simp;omega))
theorem Uj (x:Bs)(n a:Int)(y:Option Addr)(G B:Nat)(w:World):Calls Tryz.prog 158 #[.agg #[.int .u8 25,.string (aU x),.int .i64 n,.slice y G B,.int .i64 a]] w (dH (Mist.shapeOf 25 n) w):=by
 go_in
 go_wp2_with fail;refine (aQ _ _).mono ?_;rintro e w1⟨rfl,f⟩;go_wp2_with fail;refine (aQ _ _).mono ?_;rintro e M⟨rfl,g⟩;go_wp2_with fail;refine (aQ _ _).mono ?_;rintro e N⟨rfl,h⟩;have j:=O (dY f g h);have D:=j.o.1;clear f g h;go_upto_region 5 with (fail)
 obtain⟨H,r,b,t,F,L,C,P,i,-,-,-,-⟩:=j.o.2;rw [r];clear r D j;have o0:=i.o.cell 0;have o1:=i.o.cell 1;have o2:=i.o.cell 2;have I:=i.o.lt;have J:=t.o.cell 0;have K:=t.o.cell 2;have k:=b.o.cell 0;have l:=b.o.cell 1;have m:=b.o.cell 2;have q:=b.o.cell 3;have r0:=b.o.frozen 0;have r1:=b.o.frozen 1;have r2:=b.o.frozen 2;have r3:=b.o.frozen 3;go_wp2_with fail;refine (kY _ _ _ _).mono ?_;rintro e u⟨rfl,c⟩;have A:=O (gB c);have d:=O (show aZ u (w.heap.size+1) 172 #[.bool false,.int .i64 0,.int .i64 0,.slice none 0 0] from aZ.below (by repeat (first|(with_reducible exact b.o)|(with_reducible refine aZ.alloc ?_ _))) c (by first | omega|(simp;omega)));have E:=O (show Below w.heap.size w u from Below.trans (by repeat (first|(with_reducible exact F.o)|(with_reducible refine dS ?_ ?_)|(with_reducible refine aF ?_ ?_) | omega|(simp;omega))) (c.mono (by first | omega|(simp;omega))));clear c;clear k l m q r0 r1 r2 r3;have k:=d.o.cell 0;have l:=d.o.cell 1;have m:=d.o.cell 2;have q:=d.o.cell 3;have r0:=d.o.frozen 0;have r1:=d.o.frozen 1;have r2:=d.o.frozen 2;have r3:=d.o.frozen 3;go_wp2_with fail;refine bodyPost_ret (v:=.tuple #[.agg #[.bool true,.int .i64 0,.int .i64 0,.slice (some ⟨H.heap.size,0,none⟩) 1 1],.bool true]) (by simp [results,Tryz.f158,go_sem,k,l,m,q]) rfl ?_
 refine⟨_,_,_,_,_,_,_,rfl,?_,rfl,rfl,rfl,rfl,rfl,aiv _,?_⟩
 ·repeat (first|(with_reducible exact E.o)|(with_reducible refine dS ?_ ?_)|(with_reducible refine aF ?_ ?_) | omega|(simp;omega))
 ·refine dw.one (T:=189) ?_
  repeat (first|(with_reducible refine aZ.far ?_ ?_ _) | exact A.o|(simp;omega))
theorem Uu (x:Bs)(n a:Int)(y:Option Addr)(G B:Nat)(w:World):Calls Tryz.prog 158 #[.agg #[.int .u8 43,.string (aU x),.int .i64 n,.slice y G B,.int .i64 a]] w (dH (Mist.shapeOf 43 n) w):=by
 go_in
 go_wp2_with fail;refine (aQ _ _).mono ?_;rintro e w1⟨rfl,f⟩;go_wp2_with fail;refine (aQ _ _).mono ?_;rintro e M⟨rfl,g⟩;go_wp2_with fail;refine (aQ _ _).mono ?_;rintro e N⟨rfl,h⟩;have j:=O (dY f g h);have D:=j.o.1;clear f g h;go_upto_region 5 with (fail)
 obtain⟨H,r,b,t,F,L,C,P,i,-,-,-,-⟩:=j.o.2;rw [r];clear r D j;have o0:=i.o.cell 0;have o1:=i.o.cell 1;have o2:=i.o.cell 2;have I:=i.o.lt;have J:=t.o.cell 0;have K:=t.o.cell 2;have k:=b.o.cell 0;have l:=b.o.cell 1;have m:=b.o.cell 2;have q:=b.o.cell 3;have r0:=b.o.frozen 0;have r1:=b.o.frozen 1;have r2:=b.o.frozen 2;have r3:=b.o.frozen 3;go_wp2_with fail;refine (kY _ _ _ _).mono ?_;rintro e u⟨rfl,c⟩;have A:=O (gB c);have d:=O (show aZ u (w.heap.size+1) 172 #[.bool false,.int .i64 0,.int .i64 0,.slice none 0 0] from aZ.below (by repeat (first|(with_reducible exact b.o)|(with_reducible refine aZ.alloc ?_ _))) c (by first | omega|(simp;omega)));have E:=O (show Below w.heap.size w u from Below.trans (by repeat (first|(with_reducible exact F.o)|(with_reducible refine dS ?_ ?_)|(with_reducible refine aF ?_ ?_) | omega|(simp;omega))) (c.mono (by first | omega|(simp;omega))));clear c;clear k l m q r0 r1 r2 r3;have k:=d.o.cell 0;have l:=d.o.cell 1;have m:=d.o.cell 2;have q:=d.o.cell 3;have r0:=d.o.frozen 0;have r1:=d.o.frozen 1;have r2:=d.o.frozen 2;have r3:=d.o.frozen 3;go_wp2_with fail;refine bodyPost_ret (v:=.tuple #[.agg #[.bool true,.int .i64 0,.int .i64 0,.slice (some ⟨H.heap.size,0,none⟩) 1 1],.bool true]) (by simp [results,Tryz.f158,go_sem,k,l,m,q]) rfl ?_
 refine⟨_,_,_,_,_,_,_,rfl,?_,rfl,rfl,rfl,rfl,rfl,aiv _,?_⟩
 ·repeat (first|(with_reducible exact E.o)|(with_reducible refine dS ?_ ?_)|(with_reducible refine aF ?_ ?_) | omega|(simp;omega))
 ·refine dw.one (T:=189) ?_
  repeat (first|(with_reducible refine aZ.far ?_ ?_ _) | exact A.o|(simp;omega))
theorem Uv (x:Bs)(n a:Int)(y:Option Addr)(G B:Nat)(w:World):Calls Tryz.prog 158 #[.agg #[.int .u8 44,.string (aU x),.int .i64 n,.slice y G B,.int .i64 a]] w (dH (Mist.shapeOf 44 n) w):=by
 go_in
 go_wp2_with fail;refine (aQ _ _).mono ?_;rintro e w1⟨rfl,f⟩;go_wp2_with fail;refine (aQ _ _).mono ?_;rintro e M⟨rfl,g⟩;go_wp2_with fail;refine (aQ _ _).mono ?_;rintro e N⟨rfl,h⟩;have j:=O (dY f g h);have D:=j.o.1;clear f g h;go_upto_region 5 with (fail)
 obtain⟨H,r,b,t,F,L,C,P,i,-,-,-,-⟩:=j.o.2;rw [r];clear r D j;have o0:=i.o.cell 0;have o1:=i.o.cell 1;have o2:=i.o.cell 2;have I:=i.o.lt;have J:=t.o.cell 0;have K:=t.o.cell 2;have k:=b.o.cell 0;have l:=b.o.cell 1;have m:=b.o.cell 2;have q:=b.o.cell 3;have r0:=b.o.frozen 0;have r1:=b.o.frozen 1;have r2:=b.o.frozen 2;have r3:=b.o.frozen 3;go_wp2_with fail;refine (kY _ _ _ _).mono ?_;rintro e u⟨rfl,c⟩;have A:=O (gB c);have d:=O (show aZ u (w.heap.size+1) 172 #[.bool false,.int .i64 0,.int .i64 0,.slice none 0 0] from aZ.below (by repeat (first|(with_reducible exact b.o)|(with_reducible refine aZ.alloc ?_ _))) c (by first | omega|(simp;omega)));have E:=O (show Below w.heap.size w u from Below.trans (by repeat (first|(with_reducible exact F.o)|(with_reducible refine dS ?_ ?_)|(with_reducible refine aF ?_ ?_) | omega|(simp;omega))) (c.mono (by first | omega|(simp;omega))));clear c;clear k l m q r0 r1 r2 r3;have k:=d.o.cell 0;have l:=d.o.cell 1;have m:=d.o.cell 2;have q:=d.o.cell 3;have r0:=d.o.frozen 0;have r1:=d.o.frozen 1;have r2:=d.o.frozen 2;have r3:=d.o.frozen 3;go_wp2_with fail;refine bodyPost_ret (v:=.tuple #[.agg #[.bool true,.int .i64 0,.int .i64 0,.slice (some ⟨H.heap.size,0,none⟩) 1 1],.bool true]) (by simp [results,Tryz.f158,go_sem,k,l,m,q]) rfl ?_
 refine⟨_,_,_,_,_,_,_,rfl,?_,rfl,rfl,rfl,rfl,rfl,aiv _,?_⟩
 ·repeat (first|(with_reducible exact E.o)|(with_reducible refine dS ?_ ?_)|(with_reducible refine aF ?_ ?_) | omega|(simp;omega))
 ·refine dw.one (T:=189) ?_
  repeat (first|(with_reducible refine aZ.far ?_ ?_ _) | exact A.o|(simp;omega))
theorem Ui (x:Bs)(n a:Int)(u:Option Addr)(F A:Nat)(w:World):Calls Tryz.prog 158 #[.agg #[.int .u8 24,.string (aU x),.int .i64 n,.slice u F A,.int .i64 a]] w (dH (Mist.shapeOf 24 n) w):=by
 go_in
 go_wp2_with fail;refine (aQ _ _).mono ?_;rintro e w1⟨rfl,f⟩;go_wp2_with fail;refine (aQ _ _).mono ?_;rintro e K⟨rfl,g⟩;go_wp2_with fail;refine (aQ _ _).mono ?_;rintro e L⟨rfl,h⟩;have i:=O (dY f g h);have C:=i.o.1;clear f g h;go_upto_region 5 with (fail)
 obtain⟨G,q,b,r,E,J,B,M,-⟩:=i.o.2;rw [q];clear q C i;have H:=r.o.cell 0;have I:=r.o.cell 2;have j:=b.o.cell 0;have k:=b.o.cell 1;have l:=b.o.cell 2;have m:=b.o.cell 3;have r0:=b.o.frozen 0;have r1:=b.o.frozen 1;have r2:=b.o.frozen 2;have r3:=b.o.frozen 3;go_wp2_with fail;refine (kY _ _ _ _).mono ?_;rintro e t⟨rfl,c⟩;have y:=O (gB c);have d:=O (show aZ t (w.heap.size+1) 172 #[.bool false,.int .i64 0,.int .i64 0,.slice none 0 0] from aZ.below (by repeat (first|(with_reducible exact b.o)|(with_reducible refine aZ.alloc ?_ _))) c (by first | omega|(simp;omega)));have D:=O (show Below w.heap.size w t from Below.trans (by repeat (first|(with_reducible exact E.o)|(with_reducible refine dS ?_ ?_)|(with_reducible refine aF ?_ ?_) | omega|(simp;omega))) (c.mono (by first | omega|(simp;omega))));clear c;clear j k l m r0 r1 r2 r3;have j:=d.o.cell 0;have k:=d.o.cell 1;have l:=d.o.cell 2;have m:=d.o.cell 3;have r0:=d.o.frozen 0;have r1:=d.o.frozen 1;have r2:=d.o.frozen 2;have r3:=d.o.frozen 3;go_wp2_with fail;refine bodyPost_ret (v:=.tuple #[.agg #[.bool true,.int .i64 0,.int .i64 0,.slice (some ⟨G.heap.size,0,none⟩) 1 1],.bool true]) (by simp [results,Tryz.f158,go_sem,j,k,l,m]) rfl ?_
 refine⟨_,_,_,_,_,_,_,rfl,?_,rfl,rfl,rfl,rfl,rfl,aiv _,?_⟩
 ·repeat (first|(with_reducible exact D.o)|(with_reducible refine dS ?_ ?_)|(with_reducible refine aF ?_ ?_) | omega|(simp;omega))
 ·refine dw.one (T:=189) ?_
  repeat (first|(with_reducible refine aZ.far ?_ ?_ _) | exact y.o|(simp;omega))
theorem Us (x:Bs)(n a:Int)(u:Option Addr)(F A:Nat)(w:World):Calls Tryz.prog 158 #[.agg #[.int .u8 41,.string (aU x),.int .i64 n,.slice u F A,.int .i64 a]] w (dH (Mist.shapeOf 41 n) w):=by
 go_in
 go_wp2_with fail;refine (aQ _ _).mono ?_;rintro e w1⟨rfl,f⟩;go_wp2_with fail;refine (aQ _ _).mono ?_;rintro e K⟨rfl,g⟩;go_wp2_with fail;refine (aQ _ _).mono ?_;rintro e L⟨rfl,h⟩;have i:=O (dY f g h);have C:=i.o.1;clear f g h;go_upto_region 5 with (fail)
 obtain⟨G,q,b,r,E,J,B,M,-⟩:=i.o.2;rw [q];clear q C i;have H:=r.o.cell 0;have I:=r.o.cell 2;have j:=b.o.cell 0;have k:=b.o.cell 1;have l:=b.o.cell 2;have m:=b.o.cell 3;have r0:=b.o.frozen 0;have r1:=b.o.frozen 1;have r2:=b.o.frozen 2;have r3:=b.o.frozen 3;go_wp2_with fail;refine (kY _ _ _ _).mono ?_;rintro e t⟨rfl,c⟩;have y:=O (gB c);have d:=O (show aZ t (w.heap.size+1) 172 #[.bool false,.int .i64 0,.int .i64 0,.slice none 0 0] from aZ.below (by repeat (first|(with_reducible exact b.o)|(with_reducible refine aZ.alloc ?_ _))) c (by first | omega|(simp;omega)));have D:=O (show Below w.heap.size w t from Below.trans (by repeat (first|(with_reducible exact E.o)|(with_reducible refine dS ?_ ?_)|(with_reducible refine aF ?_ ?_) | omega|(simp;omega))) (c.mono (by first | omega|(simp;omega))));clear c;clear j k l m r0 r1 r2 r3;have j:=d.o.cell 0;have k:=d.o.cell 1;have l:=d.o.cell 2;have m:=d.o.cell 3;have r0:=d.o.frozen 0;have r1:=d.o.frozen 1;have r2:=d.o.frozen 2;have r3:=d.o.frozen 3;go_wp2_with fail;refine bodyPost_ret (v:=.tuple #[.agg #[.bool true,.int .i64 0,.int .i64 0,.slice (some ⟨G.heap.size,0,none⟩) 1 1],.bool true]) (by simp [results,Tryz.f158,go_sem,j,k,l,m]) rfl ?_
 refine⟨_,_,_,_,_,_,_,rfl,?_,rfl,rfl,rfl,rfl,rfl,aiv _,?_⟩
 ·repeat (first|(with_reducible exact D.o)|(with_reducible refine dS ?_ ?_)|(with_reducible refine aF ?_ ?_) | omega|(simp;omega))
 ·refine dw.one (T:=189) ?_
  repeat (first|(with_reducible refine aZ.far ?_ ?_ _) | exact y.o|(simp;omega))
theorem Uq (x:Bs)(n a:Int)(C:Option Addr)(K E:Nat)(w:World):Calls Tryz.prog 158 #[.agg #[.int .u8 34,.string (aU x),.int .i64 n,.slice C K E,.int .i64 a]] w (dH (Mist.shapeOf 34 n) w):=by
 go_in
 go_wp2_with fail;refine (aQ _ _).mono ?_;rintro e w1⟨rfl,g⟩;go_wp2_with fail;refine (aQ _ _).mono ?_;rintro e P⟨rfl,h⟩;go_wp2_with fail;refine (aQ _ _).mono ?_;rintro e Q⟨rfl,i⟩;have r:=O (dY g h i);have H:=r.o.1;clear g h i;go_upto_region 5 with (fail)
 obtain⟨R,y,c,A,J,N,F,S,-⟩:=r.o.2;rw [y];clear y H r;have L:=A.o.cell 0;have M:=A.o.cell 2;have j:=c.o.cell 0;have k:=c.o.cell 1;have l:=c.o.cell 2;have m:=c.o.cell 3;have r0:=c.o.frozen 0;have r1:=c.o.frozen 1;have r2:=c.o.frozen 2;have r3:=c.o.frozen 3;go_wp2_with fail;refine (Kk _ _).mono ?_;rintro e u⟨rfl,f⟩;have b:=O (show aZ u (w.heap.size+1) 172 #[.bool false,.int .i64 0,.int .i64 0,.slice none 0 0] from aZ.below (by repeat (first|(with_reducible exact c.o)|(with_reducible refine aZ.alloc ?_ _))) f (by first | omega|(simp;omega)));have I:=O (show Below w.heap.size w u from Below.trans (by repeat (first|(with_reducible exact J.o)|(with_reducible refine dS ?_ ?_)|(with_reducible refine aF ?_ ?_) | omega|(simp;omega))) (f.mono (by first | omega|(simp;omega))));clear f;clear j k l m r0 r1 r2 r3;have j:=b.o.cell 0;have k:=b.o.cell 1;have l:=b.o.cell 2;have m:=b.o.cell 3;have r0:=b.o.frozen 0;have r1:=b.o.frozen 1;have r2:=b.o.frozen 2;have r3:=b.o.frozen 3;have G:=b.o.lt;go_wp2_with fail;refine (kY _ _ _ _).mono ?_;rintro e B⟨rfl,q⟩;have D:=O (gB q);have d:=O (show aZ B (w.heap.size+1) 172 #[.bool false,.int .i64 0,.int .i64 0,.slice none 0 0] from aZ.below (by repeat (first|(with_reducible exact b.o)|(with_reducible refine aZ.alloc ?_ _))) q (by first | omega|(simp;omega)));have t:=O (show Below w.heap.size w B from Below.trans (by repeat (first|(with_reducible exact I.o)|(with_reducible refine dS ?_ ?_)|(with_reducible refine aF ?_ ?_) | omega|(simp;omega))) (q.mono (by first | omega|(simp;omega))));clear q;clear j k l m r0 r1 r2 r3;have j:=d.o.cell 0;have k:=d.o.cell 1;have l:=d.o.cell 2;have m:=d.o.cell 3;have r0:=d.o.frozen 0;have r1:=d.o.frozen 1;have r2:=d.o.frozen 2;have r3:=d.o.frozen 3;go_wp2_with fail;refine bodyPost_ret (v:=.tuple #[.agg #[.bool true,.int .i64 0,.int .i64 0,.slice (some ⟨u.heap.size,0,none⟩) 1 1],.bool true]) (by simp [results,Tryz.f158,go_sem,j,k,l,m]) rfl ?_
 refine⟨_,_,_,_,_,_,_,rfl,?_,rfl,rfl,rfl,rfl,rfl,aiv _,?_⟩
 ·repeat (first|(with_reducible exact t.o)|(with_reducible refine dS ?_ ?_)|(with_reducible refine aF ?_ ?_) | omega|(simp;omega))
 ·refine dw.one (T:=189) ?_
  repeat (first|(with_reducible refine aZ.far ?_ ?_ _) | exact D.o|(simp;omega))
theorem Ur (x:Bs)(n a:Int)(C:Option Addr)(K E:Nat)(w:World):Calls Tryz.prog 158 #[.agg #[.int .u8 40,.string (aU x),.int .i64 n,.slice C K E,.int .i64 a]] w (dH (Mist.shapeOf 40 n) w):=by
 go_in
 go_wp2_with fail;refine (aQ _ _).mono ?_;rintro e w1⟨rfl,g⟩;go_wp2_with fail;refine (aQ _ _).mono ?_;rintro e P⟨rfl,h⟩;go_wp2_with fail;refine (aQ _ _).mono ?_;rintro e Q⟨rfl,i⟩;have r:=O (dY g h i);have H:=r.o.1;clear g h i;go_upto_region 5 with (fail)
 obtain⟨R,y,c,A,J,N,F,S,-⟩:=r.o.2;rw [y];clear y H r;have L:=A.o.cell 0;have M:=A.o.cell 2;have j:=c.o.cell 0;have k:=c.o.cell 1;have l:=c.o.cell 2;have m:=c.o.cell 3;have r0:=c.o.frozen 0;have r1:=c.o.frozen 1;have r2:=c.o.frozen 2;have r3:=c.o.frozen 3;go_wp2_with fail;refine (XE _ _).mono ?_;rintro e u⟨rfl,f⟩;have b:=O (show aZ u (w.heap.size+1) 172 #[.bool false,.int .i64 0,.int .i64 0,.slice none 0 0] from aZ.below (by repeat (first|(with_reducible exact c.o)|(with_reducible refine aZ.alloc ?_ _))) f (by first | omega|(simp;omega)));have I:=O (show Below w.heap.size w u from Below.trans (by repeat (first|(with_reducible exact J.o)|(with_reducible refine dS ?_ ?_)|(with_reducible refine aF ?_ ?_) | omega|(simp;omega))) (f.mono (by first | omega|(simp;omega))));clear f;clear j k l m r0 r1 r2 r3;have j:=b.o.cell 0;have k:=b.o.cell 1;have l:=b.o.cell 2;have m:=b.o.cell 3;have r0:=b.o.frozen 0;have r1:=b.o.frozen 1;have r2:=b.o.frozen 2;have r3:=b.o.frozen 3;have G:=b.o.lt;go_wp2_with fail;refine (kY _ _ _ _).mono ?_;rintro e B⟨rfl,q⟩;have D:=O (gB q);have d:=O (show aZ B (w.heap.size+1) 172 #[.bool false,.int .i64 0,.int .i64 0,.slice none 0 0] from aZ.below (by repeat (first|(with_reducible exact b.o)|(with_reducible refine aZ.alloc ?_ _))) q (by first | omega|(simp;omega)));have t:=O (show Below w.heap.size w B from Below.trans (by repeat (first|(with_reducible exact I.o)|(with_reducible refine dS ?_ ?_)|(with_reducible refine aF ?_ ?_) | omega|(simp;omega))) (q.mono (by first | omega|(simp;omega))));clear q;clear j k l m r0 r1 r2 r3;have j:=d.o.cell 0;have k:=d.o.cell 1;have l:=d.o.cell 2;have m:=d.o.cell 3;have r0:=d.o.frozen 0;have r1:=d.o.frozen 1;have r2:=d.o.frozen 2;have r3:=d.o.frozen 3;go_wp2_with fail;refine bodyPost_ret (v:=.tuple #[.agg #[.bool true,.int .i64 0,.int .i64 0,.slice (some ⟨u.heap.size,0,none⟩) 1 1],.bool true]) (by simp [results,Tryz.f158,go_sem,j,k,l,m]) rfl ?_
 refine⟨_,_,_,_,_,_,_,rfl,?_,rfl,rfl,rfl,rfl,rfl,aiv _,?_⟩
 ·repeat (first|(with_reducible exact t.o)|(with_reducible refine dS ?_ ?_)|(with_reducible refine aF ?_ ?_) | omega|(simp;omega))
 ·refine dw.one (T:=189) ?_
  repeat (first|(with_reducible refine aZ.far ?_ ?_ _) | exact D.o|(simp;omega))
theorem Uo (x:Bs)(n a:Int)(y:Option Addr)(F A:Nat)(w:World):Calls Tryz.prog 158 #[.agg #[.int .u8 33,.string (aU x),.int .i64 n,.slice y F A,.int .i64 a]] w (dH (Mist.shapeOf 33 n) w):=by
 go_in
 go_wp2_with fail;refine (aQ _ _).mono ?_;rintro e w1⟨rfl,f⟩;go_wp2_with fail;refine (aQ _ _).mono ?_;rintro e J⟨rfl,g⟩;go_wp2_with fail;refine (aQ _ _).mono ?_;rintro e K⟨rfl,h⟩;have i:=O (dY f g h);have C:=i.o.1;clear f g h;go_upto_region 5 with (fail)
 obtain⟨L,t,b,u,E,I,B,M,-⟩:=i.o.2;rw [t];clear t C i;have G:=u.o.cell 0;have H:=u.o.cell 2;have k:=b.o.cell 0;have l:=b.o.cell 1;have m:=b.o.cell 2;have q:=b.o.cell 3;have r0:=b.o.frozen 0;have r1:=b.o.frozen 1;have r2:=b.o.frozen 2;have r3:=b.o.frozen 3;go_wp2_with fail;refine (Kk _ _).mono ?_;rintro e r⟨rfl,d⟩;have c:=O (show aZ r (w.heap.size+1) 172 #[.bool false,.int .i64 0,.int .i64 0,.slice none 0 0] from aZ.below (by repeat (first|(with_reducible exact b.o)|(with_reducible refine aZ.alloc ?_ _))) d (by first | omega|(simp;omega)));have D:=O (show Below w.heap.size w r from Below.trans (by repeat (first|(with_reducible exact E.o)|(with_reducible refine dS ?_ ?_)|(with_reducible refine aF ?_ ?_) | omega|(simp;omega))) (d.mono (by first | omega|(simp;omega))));clear d;clear k l m q r0 r1 r2 r3;have k:=c.o.cell 0;have l:=c.o.cell 1;have m:=c.o.cell 2;have q:=c.o.cell 3;have r0:=c.o.frozen 0;have r1:=c.o.frozen 1;have r2:=c.o.frozen 2;have r3:=c.o.frozen 3;have j:=c.o.lt;go_wp2_with fail;refine bodyPost_ret (v:=.tuple #[.agg #[.bool false,.int .i64 (-9223372036854775808),.int .i64 9223372036854775807,.slice (some ⟨r.heap.size,0,none⟩) 1 1],.bool true]) (by simp [results,Tryz.f158,go_sem,k,l,m,q,j]) rfl ?_
 refine⟨_,_,_,_,_,_,_,rfl,?_,rfl,rfl,rfl,rfl,rfl,aiv _,?_⟩
 ·repeat (first|(with_reducible exact D.o)|(with_reducible refine dS ?_ ?_)|(with_reducible refine aF ?_ ?_) | omega|(simp;omega))
 ·refine dw.one (T:=189) ?_;exact tZ (by simp)
theorem dw.far {w:World}{A:Option Addr}{ps:List Part}(h:dw w A ps){g i:Nat}{u:Value}(m:∀ b,A=some ⟨b,0,none⟩→b ≠ g):dw (w.setCell ⟨g,i,none⟩ u) A ps :=
 ⟨fun h0=>by
  obtain⟨b,e,l,f⟩:=h.ex h0;have c:=m b e
  refine⟨b,e,by simpa [World.setCell] using l,fun j p k=>?_⟩
  have a:∀ o,(w.setCell ⟨g,i,none⟩ u).cell? ⟨b,o,none⟩=w.cell? ⟨b,o,none⟩:=fun o=>World.cell?_setCell_other _ _ _ _ (fun d=>c (congrArg Addr.block d).symm)
  rw [a,a,a];exact f j p k⟩
def BA (q:Int)(w:World)(e:Ending)(w':World):Prop :=
 ∃ A c,e=.returned (.agg #[.bool false,.int .i64 1,.int .i64 8,.slice A (Mist.asked q).parts.length c])∧(Mist.asked q).parts.length≤c∧dw w' A (Mist.asked q).parts∧(∀ b,A=some ⟨b,0,none⟩→w.heap.size≤b)∧Below w.heap.size w w'
theorem Z0 (w:World):Calls Tryz.prog 186 #[.int .i64 7] w (BA 7 w):=by
 go_in
 go_wp2_with fail;refine (aQ _ _).mono ?_;rintro e w1⟨rfl,c⟩;have a:=O (gB c);have n:=O ((aF (Below.refl w.heap.size w) (aiv _) (o:=.cells #[.bool false,.int .i64 0,.int .i64 0,.slice none 0 0] 172)).trans (c.mono (by simp)));clear c;have j:=a.o.cell 0;have k:=a.o.cell 1;have l:=a.o.cell 2;have m:=a.o.cell 3;have r0:=a.o.frozen 0;have r1:=a.o.frozen 1;have r2:=a.o.frozen 2;have r3:=a.o.frozen 3;have d:=a.o.lt;have f:w.heap.size < w1.heap.size+1:=by omega
 have g:w.heap.size < w1.heap.size+1+1:=by omega
 have i:w.heap.size < w1.heap.size+1+1+1:=by omega
 go_wp2_with fail;refine bodyPost_ret (v:=.agg #[.bool false,.int .i64 1,.int .i64 8,.slice none 0 0]) (by simp [results,Tryz.f186,go_sem,j,k,l,m,d,f]) rfl ?_
 refine⟨none,0,rfl,aiv _,dw.nil _,(fun b h=>nomatch h),?_⟩
 repeat (first|(with_reducible exact n.o)|(with_reducible refine dS ?_ ?_)|(with_reducible refine aF ?_ ?_) | omega|(simp;omega))
theorem Z_ (w:World):Calls Tryz.prog 186 #[.int .i64 8] w (BA 8 w):=by
 have c:=O (show (Mist.asked 8).parts=[⟨1,801,.expr⟩] from rfl);go_in
 go_wp2_with fail;refine (aQ _ _).mono ?_;rintro e w1⟨rfl,d⟩;have a:=O (gB d);have q:=O ((aF (Below.refl w.heap.size w) (aiv _) (o:=.cells #[.bool false,.int .i64 0,.int .i64 0,.slice none 0 0] 172)).trans (d.mono (by simp)));clear d;have k:=a.o.cell 0;have l:=a.o.cell 1;have m:=a.o.cell 2;have n:=a.o.cell 3;have r0:=a.o.frozen 0;have r1:=a.o.frozen 1;have r2:=a.o.frozen 2;have r3:=a.o.frozen 3;have f:=a.o.lt;have g:w.heap.size < w1.heap.size+1:=by omega
 have i:w.heap.size < w1.heap.size+1+1:=by omega
 have j:w.heap.size < w1.heap.size+1+1+1:=by omega
 go_wp2_with fail;refine bodyPost_ret (v:=.agg #[.bool false,.int .i64 1,.int .i64 8,.slice (some ⟨w1.heap.size+1+1,0,none⟩) 1 1]) (by simp [results,Tryz.f186,go_sem,k,l,m,n,f,g,i]) rfl ?_
 refine⟨some ⟨w1.heap.size+1+1,0,none⟩,1,by rw [c.o];rfl,by rw [c.o];exact aiv _,?_,?_,?_⟩
 ·rw [c.o];refine dw.one (T:=189) ?_;exact tZ (by simp)
 ·intro b h;injection h with h;injection h with h;omega
 ·repeat (first|(with_reducible exact q.o)|(with_reducible refine dS ?_ ?_)|(with_reducible refine aF ?_ ?_) | omega|(simp;omega))
theorem aac (q:Int)(h7:¬ q=7)(h8:¬ q=8)(w:World):Calls Tryz.prog 186 #[.int .i64 q] w (BA q w):=by
 have t:(q == 7)=false:=by simpa using h7
 have u:(q == 8)=false:=by simpa using h8
 have c:=O (show (Mist.asked q).parts=[⟨1,1,.expr⟩] by simp [Mist.asked,h7,h8]);go_in
 go_wp2_with fail;refine (aQ _ _).mono ?_;rintro e w1⟨rfl,d⟩;have a:=O (gB d);have r:=O ((aF (Below.refl w.heap.size w) (aiv _) (o:=.cells #[.bool false,.int .i64 0,.int .i64 0,.slice none 0 0] 172)).trans (d.mono (by simp)));clear d;have k:=a.o.cell 0;have l:=a.o.cell 1;have m:=a.o.cell 2;have n:=a.o.cell 3;have r0:=a.o.frozen 0;have r1:=a.o.frozen 1;have r2:=a.o.frozen 2;have r3:=a.o.frozen 3;have f:=a.o.lt;have g:w.heap.size < w1.heap.size+1:=by omega
 have i:w.heap.size < w1.heap.size+1+1:=by omega
 have j:w.heap.size < w1.heap.size+1+1+1:=by omega
 go_wp2_with fail;refine bodyPost_ret (v:=.agg #[.bool false,.int .i64 1,.int .i64 8,.slice (some ⟨w1.heap.size,0,none⟩) 1 1]) (by simp [results,Tryz.f186,go_sem,k,l,m,n,f,g]) rfl ?_
 refine⟨some ⟨w1.heap.size,0,none⟩,1,by rw [c.o];rfl,by rw [c.o];exact aiv _,?_,?_,?_⟩
 ·rw [c.o];refine dw.one (T:=189) ?_;exact aZ.alloc (tZ (by simp)) _
 ·intro b h;injection h with h;injection h with h;omega
 ·repeat (first|(with_reducible exact r.o)|(with_reducible refine dS ?_ ?_)|(with_reducible refine aF ?_ ?_) | omega|(simp;omega))
theorem Rl (q:Int)(w:World):Calls Tryz.prog 186 #[.int .i64 q] w (BA q w):=by
 by_cases h7:q=7
 ·subst h7;exact Z0 w
 ·by_cases h8:q=8
  ·subst h8;exact Z_ w
  ·exact aac q h7 h8 w
theorem Ux (x:Bs)(n a:Int)(G:Option Addr)(P J:Nat)(w:World):Calls Tryz.prog 158 #[.agg #[.int .u8 46,.string (aU x),.int .i64 n,.slice G P J,.int .i64 a]] w (dH (Mist.shapeOf 46 n) w):=by
 go_in
 go_wp2_with fail;refine (aQ _ _).mono ?_;rintro e w1⟨rfl,i⟩;go_wp2_with fail;refine (aQ _ _).mono ?_;rintro e T⟨rfl,j⟩;go_wp2_with fail;refine (aQ _ _).mono ?_;rintro e U⟨rfl,k⟩;have r:=O (dY i j k);have L:=r.o.1;clear i j k;go_upto_region 5 with (fail)
 obtain⟨V,D,d,E,N,S,K,W,-⟩:=r.o.2;rw [D];clear D L r;have Q:=E.o.cell 0;have R:=E.o.cell 2;have y:=d.o.cell 0;have A:=d.o.cell 1;have B:=d.o.cell 2;have C:=d.o.cell 3;have r0:=d.o.frozen 0;have r1:=d.o.frozen 1;have r2:=d.o.frozen 2;have r3:=d.o.frozen 3;go_wp2_with fail;refine (Rl _ _).mono ?_;rintro e F⟨q,c4,rfl,l,m,c,g⟩;have t:=O m;have I:=O (show ∀ b,q=some ⟨b,0,none⟩→b ≠ w.heap.size+1 from fun b h=>by have h9:=c b h;omega);clear m c;have f:=O (show aZ F (w.heap.size+1) 172 #[.bool false,.int .i64 0,.int .i64 0,.slice none 0 0] from aZ.below (by repeat (first|(with_reducible exact d.o)|(with_reducible refine aZ.alloc ?_ _))) g (by first | omega|(simp;omega)));have M:=O (show Below w.heap.size w F from Below.trans (by repeat (first|(with_reducible exact N.o)|(with_reducible refine dS ?_ ?_)|(with_reducible refine aF ?_ ?_) | omega|(simp;omega))) (g.mono (by first | omega|(simp;omega))));clear g;clear y A B C r0 r1 r2 r3;have y:=f.o.cell 0;have A:=f.o.cell 1;have B:=f.o.cell 2;have C:=f.o.cell 3;have r0:=f.o.frozen 0;have r1:=f.o.frozen 1;have r2:=f.o.frozen 2;have r3:=f.o.frozen 3;obtain⟨u,c⟩:∃ u,u=(Mist.asked n).parts.length:=⟨_,rfl⟩;rw [← c] at l ⊢
 have H:=O c;clear c;go_wp2_with fail;refine bodyPost_ret (v:=.tuple #[.agg #[.bool false,.int .i64 1,.int .i64 8,.slice q u c4],.bool true]) (by simp [results,Tryz.f158,go_sem,y,A,B,C]) rfl ?_
 refine⟨_,_,_,q,_,_,_,rfl,?_,rfl,rfl,rfl,rfl,H.o,l,?_⟩
 ·repeat (first|(with_reducible exact M.o)|(with_reducible refine dS ?_ ?_)|(with_reducible refine aF ?_ ?_) | omega|(simp;omega))
 ·repeat (first|(with_reducible refine dw.far ?_ I.o) | exact t.o)
theorem dw.three {w:World}{b:Nat}{p q r:Part}(h:aZ w b 189 (Qu p ++ Qu q ++ Qu r).toArray):dw w (some ⟨b,0,none⟩) [p,q,r]:=by
 refine⟨fun _=>⟨b,rfl,h.lt,fun j x a=>?_⟩⟩
 match j,a with
 | 0, a =>  obtain rfl : p = x := by simpa using a
            exact⟨h.cell 0,h.cell 1,h.cell 2⟩
 | 1, a =>  obtain rfl : q = x := by simpa using a
            exact⟨h.cell 3,h.cell 4,h.cell 5⟩
 | 2, a =>  obtain rfl : r = x := by simpa using a
            exact⟨h.cell 6,h.cell 7,h.cell 8⟩
 | j+3,a=>simp at a
theorem Oa (n:Int)(w:World):Calls Tryz.prog 179 #[.int .i64 n,.func (.func 183) #[] #[]] w fun e a=>e=.returned (.agg #[.int .i64 n,.int .i64 n,.func (.func 183) #[] #[]])∧a=w.alloc (.cells #[.int .i64 n,.int .i64 n,.func (.func 183) #[] #[]] 189):=by
 go_in
 go_wp2;exact bodyPost_ret (v:=.agg #[.int .i64 n,.int .i64 n,.func (.func 183) #[] #[]]) (by simp [results,Tryz.f179,go_sem]) rfl ⟨rfl,rfl⟩
theorem Ut (x:Bs)(n a:Int)(l:Option Addr)(t m:Nat)(w:World):Calls Tryz.prog 158 #[.agg #[.int .u8 42,.string (aU x),.int .i64 n,.slice l t m,.int .i64 a]] w (dH (Mist.shapeOf 42 n) w):=by
 go_in
 go_wp2_with fail;refine (aQ _ _).mono ?_;rintro e w1⟨rfl,c⟩;go_wp2_with fail;refine (aQ _ _).mono ?_;rintro e I⟨rfl,d⟩;go_wp2_with fail;refine (aQ _ _).mono ?_;rintro e J⟨rfl,f⟩;have h:=O (dY c d f);have q:=h.o.1;clear c d f;go_upto_region 5 with (fail)
 obtain⟨C,j,b,k,r,H,i,D,g,-,-,-,-⟩:=h.o.2;rw [j];clear j q h;have o0:=g.o.cell 0;have o1:=g.o.cell 1;have o2:=g.o.cell 2;have E:=g.o.lt;have F:=k.o.cell 0;have G:=k.o.cell 2;have u:=b.o.cell 0;have y:=b.o.cell 1;have A:=b.o.cell 2;have B:=b.o.cell 3;have r0:=b.o.frozen 0;have r1:=b.o.frozen 1;have r2:=b.o.frozen 2;have r3:=b.o.frozen 3;go_wp2_with fail;go_region_with ((refine (Oa _ _).mono ?_;rintro e K⟨rfl,rfl⟩))
 all_goals
  go_wp2_with fail;refine bodyPost_ret (v:=.tuple #[.agg #[.bool true,.int .i64 0,.int .i64 9223372036854775807,.slice (some ⟨C.heap.size+1,0,none⟩) 3 3],.bool true]) (by simp [results,Tryz.f158,go_sem,u,y,A,B,i,D]) rfl ?_
  refine⟨_,_,_,_,_,_,_,rfl,?_,rfl,rfl,rfl,rfl,rfl,aiv _,?_⟩
  ·refine Below.drew ?_
   repeat (first|(with_reducible exact r.o)|(with_reducible refine dS ?_ ?_)|(with_reducible refine aF ?_ ?_) | omega|(simp;omega))
  ·refine dw.three ?_;refine aZ.drew ?_;exact tZ (by simp)
theorem Uh (x:Bs)(n a:Int)(B:Option Addr)(E C:Nat)(w:World):Calls Tryz.prog 158 #[.agg #[.int .u8 23,.string (aU x),.int .i64 n,.slice B E C,.int .i64 a]] w (dH (Mist.shapeOf 23 n) w):=by
 have H:=O (show Mist.shapeOf 23 n=some ⟨false,0,0,[⟨2,2,.expr⟩]⟩ from rfl);go_in
 go_wp2_with fail;refine (aQ _ _).mono ?_;rintro e w1⟨rfl,g⟩;go_wp2_with fail;refine (aQ _ _).mono ?_;rintro e X⟨rfl,h⟩;go_wp2_with fail;refine (aQ _ _).mono ?_;rintro e j⟨rfl,i⟩;have q:=O (dY g h i);have P:=q.o.1;clear g h i;go_upto_region 5 with (fail)
 obtain⟨G,D,c,k,R,W,M,Y,-,f,-,-,-⟩:=q.o.2;rw [D];clear D P q;have o0:=f.o.cell 0;have o1:=f.o.cell 1;have o2:=f.o.cell 2;have V:=f.o.lt;have F:=k.o.cell 0;have S:=k.o.cell 2;have t:=c.o.cell 0;have u:=c.o.cell 1;have y:=c.o.cell 2;have A:=c.o.cell 3;have r0:=c.o.frozen 0;have r1:=c.o.frozen 1;have r2:=c.o.frozen 2;have r3:=c.o.frozen 3;go_wp2_with fail;have K:=k.o.lt;have J:w.heap.size ≠ j.heap.size:=fun e=>c.o.Zk f.o (by decide) (by rw [e])
 go_region_held3 (fun l=>l.cell? ⟨w.heap.size,0,none⟩=some (.int .u8 23)∧l.cell? ⟨j.heap.size+1,0,none⟩=some (.int .i64 2)∧l.cell? ⟨j.heap.size+1,1,none⟩=some (.int .i64 2)∧l.cell? ⟨j.heap.size+1,2,none⟩=some (.func (.func 120) #[] #[]))
  (first | go_keep|(go_split_ands;refine⟨?_,?_,?_,?_⟩ <;> assumption)|(go_split_ands;refine⟨?_,?_,?_,?_⟩ <;> go_keep))
  ((go_at_call 180;refine (qg _ _ _ _).mono ?_;rintro e m⟨rfl,b⟩;have I:=O b;have U:=O (show aZ m w.heap.size 39 #[.int .u8 23,.string (aU x),.int .i64 n,.slice B E C,.int .i64 a] from aZ.below (by repeat (first|(with_reducible exact k.o)|(with_reducible refine aZ.alloc ?_ _)|(with_reducible refine aZ.drew ?_))) b (by first | omega|(simp;omega)));have r:=O (show aZ m (j.heap.size+1) 189 #[.int .i64 2,.int .i64 2,.func (.func 120) #[] #[]] from aZ.below (by repeat (first|(with_reducible exact f.o)|(with_reducible refine aZ.alloc ?_ _)|(with_reducible refine aZ.drew ?_))) b (by first | omega|(simp;omega)));have d:=O (show aZ m (w.heap.size+1) 172 #[.bool false,.int .i64 0,.int .i64 0,.slice none 0 0] from aZ.below (by repeat (first|(with_reducible exact c.o)|(with_reducible refine aZ.alloc ?_ _)|(with_reducible refine aZ.drew ?_))) b (by first | omega|(simp;omega)));have Q:=O (show Below w.heap.size w m from Below.trans (by repeat (first|(with_reducible exact R.o)|(with_reducible refine aF ?_ ?_)|(with_reducible refine Below.drew ?_) | omega|(simp;omega))) (b.mono (by first | omega|(simp;omega))));clear b F S t u y A r0 r1 r2 r3 o0 o1 o2;have F:=U.o.cell 0;have o0:=r.o.cell 0;have o1:=r.o.cell 1;have o2:=r.o.cell 2;have t:=d.o.cell 0;have u:=d.o.cell 1;have y:=d.o.cell 2;have A:=d.o.cell 3;have r0:=d.o.frozen 0;have r1:=d.o.frozen 1;have r2:=d.o.frozen 2;have r3:=d.o.frozen 3;have N:=d.o.lt))
 all_goals
  go_wp2_with fail;refine bodyPost_ret (v:=.tuple #[.agg #[.bool false,.int .i64 0,.int .i64 0,.slice (some ⟨G.heap.size,0,none⟩) 1 1],.bool true]) (by simp [results,Tryz.f158,go_sem,t,u,y,A]) rfl ?_
  refine⟨_,_,_,_,_,_,_,rfl,?_,?_⟩
  ·repeat (first|(with_reducible exact Q.o)|(with_reducible refine dS ?_ ?_)|(with_reducible refine aF ?_ ?_)|(with_reducible refine Below.drew ?_) | omega|(simp;omega))
  ·rw [H.o]
   refine⟨rfl,rfl,rfl,rfl,rfl,aiv _,?_⟩
   refine dw.one (T:=189) ?_;have L:=(aZ.drew (aZ.new G 189 #[.int .i64 2,.int .i64 2,.func (.func 120) #[] #[]])).below I.o (by simp)
   repeat (first|(with_reducible refine aZ.far ?_ ?_ _)|(with_reducible refine aZ.drew ?_) | exact L|(simp;omega))
theorem OO (k:Nat)(x:Bs)(n a:Int)(D:Option Addr)(G E:Nat)(w:World)(h:(27≤k∧k≤29)∨(35≤k∧k≤39)∨47≤k):Calls Tryz.prog 158 #[.agg #[.int .u8 k,.string (aU x),.int .i64 n,.slice D G E,.int .i64 a]] w (dH (Mist.shapeOf k n) w):=by
 have e1:((k:Int) == 1)=false:=by rw [air];omega
 have e2:((k:Int) == 2)=false:=by rw [air];omega
 have e3:((k:Int) == 3)=false:=by rw [air];omega
 have U:((k:Int) == 32)=false:=by rw [air];omega
 have e45:((k:Int) == 45)=false:=by rw [air];omega
 have e4:((k:Int) == 4)=false:=by rw [air];omega
 have e5:((k:Int) == 5)=false:=by rw [air];omega
 have K:((k:Int) == 19)=false:=by rw [air];omega
 have L:((k:Int) == 20)=false:=by rw [air];omega
 have M:((k:Int) == 21)=false:=by rw [air];omega
 have N:((k:Int) == 22)=false:=by rw [air];omega
 have Q:((k:Int) == 25)=false:=by rw [air];omega
 have e43:((k:Int) == 43)=false:=by rw [air];omega
 have e44:((k:Int) == 44)=false:=by rw [air];omega
 have P:((k:Int) == 24)=false:=by rw [air];omega
 have R:((k:Int) == 26)=false:=by rw [air];omega
 have S:((k:Int) == 30)=false:=by rw [air];omega
 have T:((k:Int) == 31)=false:=by rw [air];omega
 have V:((k:Int) == 33)=false:=by rw [air];omega
 have W:((k:Int) == 34)=false:=by rw [air];omega
 have X:((k:Int) == 40)=false:=by rw [air];omega
 have Y:((k:Int) == 41)=false:=by rw [air];omega
 have Z:((k:Int) == 42)=false:=by rw [air];omega
 have e46:((k:Int) == 46)=false:=by rw [air];omega
 have a1:decide ((6:Int)≤(k:Int))=true:=aiG (by omega);have a2:decide ((k:Int)≤(18:Int))=false:=aiH (by omega);have I:=O (show Mist.shapeOf k n=none from (by unfold Mist.shapeOf;repeat (first | rw [if_neg (by omega)] | rw [if_pos (by omega)])));have J:((k:Int) == 23)=false:=by rw [air];omega
 go_in
 go_wp2_with fail;refine (aQ _ _).mono ?_;rintro e w1⟨rfl,g⟩;go_wp2_with fail;refine (aQ _ _).mono ?_;rintro e w2⟨rfl,i⟩;go_wp2_with fail;refine (aQ _ _).mono ?_;rintro e l⟨rfl,j⟩;have t:=O (dY g i j);have hz:=t.o.1;clear g i j;go_upto_region 5 with (fail)
 obtain⟨w5,F,c,m,kI,vY,hs7,yP,-,f,-,-,-⟩:=t.o.2;rw [F];clear F hz t;have o0:=f.o.cell 0;have o1:=f.o.cell 1;have o2:=f.o.cell 2;have Qe:=f.o.lt;have H:=m.o.cell 0;have p2:=m.o.cell 2;have y:=c.o.cell 0;have A:=c.o.cell 1;have B:=c.o.cell 2;have C:=c.o.cell 3;have r0:=c.o.frozen 0;have r1:=c.o.frozen 1;have r2:=c.o.frozen 2;have r3:=c.o.frozen 3;go_wp2_with fail;have hp5:=m.o.lt;have hne:w.heap.size ≠ l.heap.size:=fun e=>c.o.Zk f.o (by decide) (by rw [e])
 go_region_held3 (fun q=>q.cell? ⟨w.heap.size,0,none⟩=some (.int .u8 k)∧q.cell? ⟨l.heap.size+1,0,none⟩=some (.int .i64 2)∧q.cell? ⟨l.heap.size+1,1,none⟩=some (.int .i64 2)∧q.cell? ⟨l.heap.size+1,2,none⟩=some (.func (.func 120) #[] #[]))
  (first | go_keep|(go_split_ands;refine⟨?_,?_,?_,?_⟩ <;> assumption)|(go_split_ands;refine⟨?_,?_,?_,?_⟩ <;> go_keep))
  ((go_at_call 180;refine (qg _ _ _ _).mono ?_;rintro e r⟨rfl,b⟩;have Pv:=O b;have sD:=O (show aZ r w.heap.size 39 #[.int .u8 k,.string (aU x),.int .i64 n,.slice D G E,.int .i64 a] from aZ.below (by repeat (first|(with_reducible exact m.o)|(with_reducible refine aZ.alloc ?_ _)|(with_reducible refine aZ.drew ?_))) b (by first | omega|(simp;omega)));have u:=O (show aZ r (l.heap.size+1) 189 #[.int .i64 2,.int .i64 2,.func (.func 120) #[] #[]] from aZ.below (by repeat (first|(with_reducible exact f.o)|(with_reducible refine aZ.alloc ?_ _)|(with_reducible refine aZ.drew ?_))) b (by first | omega|(simp;omega)));have d:=O (show aZ r (w.heap.size+1) 172 #[.bool false,.int .i64 0,.int .i64 0,.slice none 0 0] from aZ.below (by repeat (first|(with_reducible exact c.o)|(with_reducible refine aZ.alloc ?_ _)|(with_reducible refine aZ.drew ?_))) b (by first | omega|(simp;omega)));have jS:=O (show Below w.heap.size w r from Below.trans (by repeat (first|(with_reducible exact kI.o)|(with_reducible refine aF ?_ ?_)|(with_reducible refine Below.drew ?_) | omega|(simp;omega))) (b.mono (by first | omega|(simp;omega))));clear b H p2 y A B C r0 r1 r2 r3 o0 o1 o2;have H:=sD.o.cell 0;have o0:=u.o.cell 0;have o1:=u.o.cell 1;have o2:=u.o.cell 2;have y:=d.o.cell 0;have A:=d.o.cell 1;have B:=d.o.cell 2;have C:=d.o.cell 3;have r0:=d.o.frozen 0;have r1:=d.o.frozen 1;have r2:=d.o.frozen 2;have r3:=d.o.frozen 3;have hs9:=d.o.lt))
 all_goals
  go_wp2_with fail;refine bodyPost_ret (v:=.tuple #[.agg #[.bool false,.int .i64 0,.int .i64 0,.slice (some ⟨w5.heap.size,0,none⟩) 1 1],.bool false]) (by simp [results,Tryz.f158,go_sem,y,A,B,C]) rfl ?_
  refine⟨_,_,_,_,_,_,_,rfl,?_,?_⟩
  ·repeat (first|(with_reducible exact jS.o)|(with_reducible refine dS ?_ ?_)|(with_reducible refine aF ?_ ?_)|(with_reducible refine Below.drew ?_) | omega|(simp;omega))
  ·rw [I.o]
