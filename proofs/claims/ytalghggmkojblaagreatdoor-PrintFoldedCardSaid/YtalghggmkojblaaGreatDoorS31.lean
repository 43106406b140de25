/-
  A part of the proof.
-/
import Derived.Test.YtalghggmkojblaaGreatDoorS29
set_option linter.all false
set_option maxRecDepth 100000
set_option maxHeartbeats 4000000
namespace Go.Proofs.YtalghggmkojblaaGreatDoor
open Go.RowKit Mist
attribute [local go_sem] ak aN aV aF aj
theorem fq.far {w:World}{A:Option Addr}{ps:List Part}(h:fq w A ps){g i:Nat}{u:Value}(m:∀ b,A=some ⟨b,0,none⟩→b ≠ g):fq (w.setCell ⟨g,i,none⟩ u) A ps :=
 ⟨fun h0=>by
  obtain⟨b,e,l,f⟩:=h.ex h0;have c:=m b e
  refine⟨b,e,by simpa [World.setCell] using l,fun j p k=>?_⟩
  have a:∀ o,(w.setCell ⟨g,i,none⟩ u).cell? ⟨b,o,none⟩=w.cell? ⟨b,o,none⟩:=fun o=>World.cell?_setCell_other _ _ _ _ (fun d=>c (congrArg Addr.block d).symm)
  rw [a,a,a];exact f j p k⟩
def EH (q:Int)(w:World)(e:Ending)(w':World):Prop :=
 ∃ A c,e=.returned (.agg #[.bool false,.int .i64 1,.int .i64 8,.slice A (Mist.asked q).parts.length c])∧(Mist.asked q).parts.length≤c∧fq w' A (Mist.asked q).parts∧(∀ b,A=some ⟨b,0,none⟩→w.heap.size≤b)∧Below w.heap.size w w'
theorem adL (w:World):Calls Tryz.prog 149 #[.int .i64 7] w (EH 7 w):=by
 go_in
 go_wp2_with fail;refine (cO _ _).mono ?_;rintro e w1⟨rfl,c⟩;have a:=O (lD c);have g:=O ((aU (Below.refl w.heap.size w) (amL _) (o:=.cells #[.bool false,.int .i64 0,.int .i64 0,.slice none 0 0] 163)).trans (c.mono (by simp)));clear c;have k:=a.o.cell 0;have l:=a.o.cell 1;have m:=a.o.cell 2;have n:=a.o.cell 3;have r0:=a.o.frozen 0;have r1:=a.o.frozen 1;have r2:=a.o.frozen 2;have q:=a.o.frozen 3;have d:=a.o.lt;have f:w.heap.size < w1.heap.size+1:=by omega
 have i:w.heap.size < w1.heap.size+1+1:=by omega
 have j:w.heap.size < w1.heap.size+1+1+1:=by omega
 go_wp2_with fail;refine bodyPost_ret (v:=.agg #[.bool false,.int .i64 1,.int .i64 8,.slice none 0 0]) (by simp [results,Tryz.f149,go_sem,k,l,m,n,d,f]) rfl ?_
 refine⟨none,0,rfl,amL _,fq.nil _,(fun b h=>nomatch h),?_⟩
 repeat (first|(with_reducible exact g.o)|(with_reducible refine gQ ?_ ?_)|(with_reducible refine aU ?_ ?_) | omega|(simp;omega))
theorem adM (w:World):Calls Tryz.prog 149 #[.int .i64 8] w (EH 8 w):=by
 have c:=O (show (Mist.asked 8).parts=[⟨1,801,.expr⟩] from rfl);go_in
 go_wp2_with fail;refine (cO _ _).mono ?_;rintro e w1⟨rfl,d⟩;have a:=O (lD d);have j:=O ((aU (Below.refl w.heap.size w) (amL _) (o:=.cells #[.bool false,.int .i64 0,.int .i64 0,.slice none 0 0] 163)).trans (d.mono (by simp)));clear d;have l:=a.o.cell 0;have m:=a.o.cell 1;have n:=a.o.cell 2;have q:=a.o.cell 3;have r0:=a.o.frozen 0;have r1:=a.o.frozen 1;have r2:=a.o.frozen 2;have r:=a.o.frozen 3;have f:=a.o.lt;have g:w.heap.size < w1.heap.size+1:=by omega
 have i:w.heap.size < w1.heap.size+1+1:=by omega
 have k:w.heap.size < w1.heap.size+1+1+1:=by omega
 go_wp2_with fail;refine bodyPost_ret (v:=.agg #[.bool false,.int .i64 1,.int .i64 8,.slice (some ⟨w1.heap.size+1+1,0,none⟩) 1 1]) (by simp [results,Tryz.f149,go_sem,l,m,n,q,f,g,i]) rfl ?_
 refine⟨some ⟨w1.heap.size+1+1,0,none⟩,1,by rw [c.o];rfl,by rw [c.o];exact amL _,?_,?_,?_⟩
 ·rw [c.o];refine fq.one (T:=185) ?_;exact wB (by simp)
 ·intro b h;injection h with h;injection h with h;omega
 ·repeat (first|(with_reducible exact j.o)|(with_reducible refine gQ ?_ ?_)|(with_reducible refine aU ?_ ?_) | omega|(simp;omega))
theorem adN (q:Int)(h7:¬ q=7)(h8:¬ q=8)(w:World):Calls Tryz.prog 149 #[.int .i64 q] w (EH q w):=by
 have t:(q == 7)=false:=by simpa using h7
 have u:(q == 8)=false:=by simpa using h8
 have c:=O (show (Mist.asked q).parts=[⟨1,1,.expr⟩] by simp [Mist.asked,h7,h8]);go_in
 go_wp2_with fail;refine (cO _ _).mono ?_;rintro e w1⟨rfl,d⟩;have a:=O (lD d);have i:=O ((aU (Below.refl w.heap.size w) (amL _) (o:=.cells #[.bool false,.int .i64 0,.int .i64 0,.slice none 0 0] 163)).trans (d.mono (by simp)));clear d;have l:=a.o.cell 0;have m:=a.o.cell 1;have n:=a.o.cell 2;have r:=a.o.cell 3;have r0:=a.o.frozen 0;have r1:=a.o.frozen 1;have r2:=a.o.frozen 2;have x:=a.o.frozen 3;have f:=a.o.lt;have g:w.heap.size < w1.heap.size+1:=by omega
 have j:w.heap.size < w1.heap.size+1+1:=by omega
 have k:w.heap.size < w1.heap.size+1+1+1:=by omega
 go_wp2_with fail;refine bodyPost_ret (v:=.agg #[.bool false,.int .i64 1,.int .i64 8,.slice (some ⟨w1.heap.size,0,none⟩) 1 1]) (by simp [results,Tryz.f149,go_sem,l,m,n,r,f,g]) rfl ?_
 refine⟨some ⟨w1.heap.size,0,none⟩,1,by rw [c.o];rfl,by rw [c.o];exact amL _,?_,?_,?_⟩
 ·rw [c.o];refine fq.one (T:=185) ?_;exact bY.alloc (wB (by simp)) _
 ·intro b h;injection h with h;injection h with h;omega
 ·repeat (first|(with_reducible exact i.o)|(with_reducible refine gQ ?_ ?_)|(with_reducible refine aU ?_ ?_) | omega|(simp;omega))
theorem Ws (q:Int)(w:World):Calls Tryz.prog 149 #[.int .i64 q] w (EH q w):=by
 by_cases h7:q=7
 ·subst h7;exact adL w
 ·by_cases h8:q=8
  ·subst h8;exact adM w
  ·exact adN q h7 h8 w
theorem YL (x:Bs)(n a:Int)(H:Option Addr)(N K:Nat)(w:World):Calls Tryz.prog 114 #[.agg #[.int .u8 46,.string (aG x),.int .i64 n,.slice H N K,.int .i64 a]] w (iQ (Mist.shapeOf 46 n) w):=by
 go_in
 go_wp2_with fail;refine (cO _ _).mono ?_;rintro e w1⟨rfl,i⟩;go_wp2_with fail;refine (cO _ _).mono ?_;rintro e V⟨rfl,j⟩;go_wp2_with fail;refine (cO _ _).mono ?_;rintro e W⟨rfl,k⟩;have r:=O (jU i j k);have M:=r.o.1;clear i j k;go_upto_region 5 with (fail)
 obtain⟨X,D,d,E,P,R,L,S,-⟩:=r.o.2;rw [D];clear D M r;have T:=E.o.cell 0;have U:=E.o.cell 2;have y:=d.o.cell 0;have A:=d.o.cell 1;have B:=d.o.cell 2;have C:=d.o.cell 3;have r0:=d.o.frozen 0;have r1:=d.o.frozen 1;have r2:=d.o.frozen 2;have F:=d.o.frozen 3;go_wp2_with fail;refine (Ws _ _).mono ?_;rintro e G⟨q,c4,rfl,l,m,c,g⟩;have t:=O m;have J:=O (show ∀ b,q=some ⟨b,0,none⟩→b ≠ w.heap.size+1 from fun b h=>by have h9:=c b h;omega);clear m c;have f:=O (show bY G (w.heap.size+1) 163 #[.bool false,.int .i64 0,.int .i64 0,.slice none 0 0] from bY.below (by repeat (first|(with_reducible exact d.o)|(with_reducible refine bY.alloc ?_ _))) g (by first | omega|(simp;omega)));have Q:=O (show Below w.heap.size w G from Below.trans (by repeat (first|(with_reducible exact P.o)|(with_reducible refine gQ ?_ ?_)|(with_reducible refine aU ?_ ?_) | omega|(simp;omega))) (g.mono (by first | omega|(simp;omega))));clear g;clear y A B C r0 r1 r2 F;have y:=f.o.cell 0;have A:=f.o.cell 1;have B:=f.o.cell 2;have C:=f.o.cell 3;have r0:=f.o.frozen 0;have r1:=f.o.frozen 1;have r2:=f.o.frozen 2;have F:=f.o.frozen 3;obtain⟨u,c⟩:∃ u,u=(Mist.asked n).parts.length:=⟨_,rfl⟩;rw [← c] at l ⊢
 have I:=O c;clear c;go_wp2_with fail;refine bodyPost_ret (v:=.tuple #[.agg #[.bool false,.int .i64 1,.int .i64 8,.slice q u c4],.bool true]) (by simp [results,Tryz.f114,go_sem,y,A,B,C]) rfl ?_
 refine⟨_,_,_,q,_,_,_,rfl,?_,rfl,rfl,rfl,rfl,I.o,l,?_⟩
 ·repeat (first|(with_reducible exact Q.o)|(with_reducible refine gQ ?_ ?_)|(with_reducible refine aU ?_ ?_) | omega|(simp;omega))
 ·repeat (first|(with_reducible refine fq.far ?_ J.o) | exact t.o)
theorem fq.three {w:World}{b:Nat}{p q r:Part}(h:bY w b 185 (Vx p ++ Vx q ++ Vx r).toArray):fq w (some ⟨b,0,none⟩) [p,q,r]:=by
 refine⟨fun _=>⟨b,rfl,h.lt,fun j x a=>?_⟩⟩
 match j,a with
 | 0, a =>  obtain rfl : p = x := by simpa using a
            exact⟨h.cell 0,h.cell 1,h.cell 2⟩
 | 1, a =>  obtain rfl : q = x := by simpa using a
            exact⟨h.cell 3,h.cell 4,h.cell 5⟩
 | 2, a =>  obtain rfl : r = x := by simpa using a
            exact⟨h.cell 6,h.cell 7,h.cell 8⟩
 | j+3,a=>simp at a
theorem SN (n:Int)(w:World):Calls Tryz.prog 141 #[.int .i64 n,.func (.func 146) #[] #[]] w fun e a=>e=.returned (.agg #[.int .i64 n,.int .i64 n,.func (.func 146) #[] #[]])∧a=w.alloc (.cells #[.int .i64 n,.int .i64 n,.func (.func 146) #[] #[]] 185):=by
 go_in
 go_wp2;exact bodyPost_ret (v:=.agg #[.int .i64 n,.int .i64 n,.func (.func 146) #[] #[]]) (by simp [results,Tryz.f141,go_sem]) rfl ⟨rfl,rfl⟩
theorem YH (x:Bs)(n a:Int)(l:Option Addr)(u q:Nat)(w:World):Calls Tryz.prog 114 #[.agg #[.int .u8 42,.string (aG x),.int .i64 n,.slice l u q,.int .i64 a]] w (iQ (Mist.shapeOf 42 n) w):=by
 go_in
 go_wp2_with fail;refine (cO _ _).mono ?_;rintro e w1⟨rfl,c⟩;go_wp2_with fail;refine (cO _ _).mono ?_;rintro e M⟨rfl,d⟩;go_wp2_with fail;refine (cO _ _).mono ?_;rintro e N⟨rfl,f⟩;have h:=O (jU c d f);have t:=h.o.1;clear c d f;go_upto_region 5 with (fail)
 obtain⟨E,j,b,k,D,F,i,m,g,-,-,-,-⟩:=h.o.2;rw [j];clear j t h;have G:=g.o.cell 0;have H:=g.o.cell 1;have I:=g.o.cell 2;have r:=g.o.lt;have J:=k.o.cell 0;have K:=k.o.cell 2;have y:=b.o.cell 0;have A:=b.o.cell 1;have B:=b.o.cell 2;have C:=b.o.cell 3;have r0:=b.o.frozen 0;have r1:=b.o.frozen 1;have r2:=b.o.frozen 2;have L:=b.o.frozen 3;go_wp2_with fail;go_region_with ((refine (SN _ _).mono ?_;rintro e P⟨rfl,rfl⟩))
 all_goals
  go_wp2_with fail;refine bodyPost_ret (v:=.tuple #[.agg #[.bool true,.int .i64 0,.int .i64 9223372036854775807,.slice (some ⟨E.heap.size+1,0,none⟩) 3 3],.bool true]) (by simp [results,Tryz.f114,go_sem,y,A,B,C,i,m]) rfl ?_
  refine⟨_,_,_,_,_,_,_,rfl,?_,rfl,rfl,rfl,rfl,rfl,amL _,?_⟩
  ·refine Below.drew ?_
   repeat (first|(with_reducible exact D.o)|(with_reducible refine gQ ?_ ?_)|(with_reducible refine aU ?_ ?_) | omega|(simp;omega))
  ·refine fq.three ?_;refine bY.drew ?_;exact wB (by simp)
theorem Yw (x:Bs)(n a:Int)(C:Option Addr)(F D:Nat)(w:World):Calls Tryz.prog 114 #[.agg #[.int .u8 23,.string (aG x),.int .i64 n,.slice C F D,.int .i64 a]] w (iQ (Mist.shapeOf 23 n) w):=by
 have M:=O (show Mist.shapeOf 23 n=some ⟨false,0,0,[⟨2,2,.expr⟩]⟩ from rfl);go_in
 go_wp2_with fail;refine (cO _ _).mono ?_;rintro e w1⟨rfl,g⟩;go_wp2_with fail;refine (cO _ _).mono ?_;rintro e w2⟨rfl,h⟩;go_wp2_with fail;refine (cO _ _).mono ?_;rintro e j⟨rfl,i⟩;have q:=O (jU g h i);have W:=q.o.1;clear g h i;go_upto_region 5 with (fail)
 obtain⟨L,E,c,k,Y,Ms,U,Qv,-,f,-,-,-⟩:=q.o.2;rw [E];clear E W q;have G:=f.o.cell 0;have H:=f.o.cell 1;have I:=f.o.cell 2;have Q:=f.o.lt;have J:=k.o.cell 0;have X:=k.o.cell 2;have u:=c.o.cell 0;have y:=c.o.cell 1;have A:=c.o.cell 2;have B:=c.o.cell 3;have r0:=c.o.frozen 0;have r1:=c.o.frozen 1;have r2:=c.o.frozen 2;have K:=c.o.frozen 3;go_wp2_with fail;have R:=k.o.lt;have P:w.heap.size ≠ j.heap.size:=fun e=>c.o.ne_ f.o (by decide) (by rw [e])
 go_region_held3 (fun l=>l.cell? ⟨w.heap.size,0,none⟩=some (.int .u8 23)∧l.cell? ⟨j.heap.size+1,0,none⟩=some (.int .i64 2)∧l.cell? ⟨j.heap.size+1,1,none⟩=some (.int .i64 2)∧l.cell? ⟨j.heap.size+1,2,none⟩=some (.func (.func 142) #[] #[]))
  (first | go_keep|(go_split_ands;refine⟨?_,?_,?_,?_⟩ <;> assumption)|(go_split_ands;refine⟨?_,?_,?_,?_⟩ <;> go_keep))
  ((go_at_call 143;refine (BZ _ _ _ _).mono ?_;rintro e m⟨rfl,b⟩;have N:=O b;have r:=O (show bY m w.heap.size 56 #[.int .u8 23,.string (aG x),.int .i64 n,.slice C F D,.int .i64 a] from bY.below (by repeat (first|(with_reducible exact k.o)|(with_reducible refine bY.alloc ?_ _)|(with_reducible refine bY.drew ?_))) b (by first | omega|(simp;omega)));have t:=O (show bY m (j.heap.size+1) 185 #[.int .i64 2,.int .i64 2,.func (.func 142) #[] #[]] from bY.below (by repeat (first|(with_reducible exact f.o)|(with_reducible refine bY.alloc ?_ _)|(with_reducible refine bY.drew ?_))) b (by first | omega|(simp;omega)));have d:=O (show bY m (w.heap.size+1) 163 #[.bool false,.int .i64 0,.int .i64 0,.slice none 0 0] from bY.below (by repeat (first|(with_reducible exact c.o)|(with_reducible refine bY.alloc ?_ _)|(with_reducible refine bY.drew ?_))) b (by first | omega|(simp;omega)));have Z:=O (show Below w.heap.size w m from Below.trans (by repeat (first|(with_reducible exact Y.o)|(with_reducible refine aU ?_ ?_)|(with_reducible refine Below.drew ?_) | omega|(simp;omega))) (b.mono (by first | omega|(simp;omega))));clear b J X u y A B r0 r1 r2 K G H I;have J:=r.o.cell 0;have G:=t.o.cell 0;have H:=t.o.cell 1;have I:=t.o.cell 2;have u:=d.o.cell 0;have y:=d.o.cell 1;have A:=d.o.cell 2;have B:=d.o.cell 3;have r0:=d.o.frozen 0;have r1:=d.o.frozen 1;have r2:=d.o.frozen 2;have K:=d.o.frozen 3;have V:=d.o.lt))
 all_goals
  go_wp2_with fail;refine bodyPost_ret (v:=.tuple #[.agg #[.bool false,.int .i64 0,.int .i64 0,.slice (some ⟨L.heap.size,0,none⟩) 1 1],.bool true]) (by simp [results,Tryz.f114,go_sem,u,y,A,B]) rfl ?_
  refine⟨_,_,_,_,_,_,_,rfl,?_,?_⟩
  ·repeat (first|(with_reducible exact Z.o)|(with_reducible refine gQ ?_ ?_)|(with_reducible refine aU ?_ ?_)|(with_reducible refine Below.drew ?_) | omega|(simp;omega))
  ·rw [M.o]
   refine⟨rfl,rfl,rfl,rfl,rfl,amL _,?_⟩
   refine fq.one (T:=185) ?_;have S:=(bY.drew (bY.new L 185 #[.int .i64 2,.int .i64 2,.func (.func 142) #[] #[]])).below N.o (by simp)
   repeat (first|(with_reducible refine bY.far ?_ ?_ _)|(with_reducible refine bY.drew ?_) | exact S|(simp;omega))
theorem Ua (k:Nat)(x:Bs)(n a:Int)(E:Option Addr)(H F:Nat)(w:World)(h:(27≤k∧k≤29)∨(35≤k∧k≤39)∨47≤k):Calls Tryz.prog 114 #[.agg #[.int .u8 k,.string (aG x),.int .i64 n,.slice E H F,.int .i64 a]] w (iQ (Mist.shapeOf k n) w):=by
 have e1:((k:Int) == 1)=false:=by rw [amH];omega
 have e2:((k:Int) == 2)=false:=by rw [amH];omega
 have e3:((k:Int) == 3)=false:=by rw [amH];omega
 have Z:((k:Int) == 32)=false:=by rw [amH];omega
 have e45:((k:Int) == 45)=false:=by rw [amH];omega
 have e4:((k:Int) == 4)=false:=by rw [amH];omega
 have e5:((k:Int) == 5)=false:=by rw [amH];omega
 have Q:((k:Int) == 19)=false:=by rw [amH];omega
 have R:((k:Int) == 20)=false:=by rw [amH];omega
 have S:((k:Int) == 21)=false:=by rw [amH];omega
 have T:((k:Int) == 22)=false:=by rw [amH];omega
 have V:((k:Int) == 25)=false:=by rw [amH];omega
 have e43:((k:Int) == 43)=false:=by rw [amH];omega
 have e44:((k:Int) == 44)=false:=by rw [amH];omega
 have U:((k:Int) == 24)=false:=by rw [amH];omega
 have W:((k:Int) == 26)=false:=by rw [amH];omega
 have X:((k:Int) == 30)=false:=by rw [amH];omega
 have Y:((k:Int) == 31)=false:=by rw [amH];omega
 have e33:((k:Int) == 33)=false:=by rw [amH];omega
 have e34:((k:Int) == 34)=false:=by rw [amH];omega
 have e40:((k:Int) == 40)=false:=by rw [amH];omega
 have e41:((k:Int) == 41)=false:=by rw [amH];omega
 have e42:((k:Int) == 42)=false:=by rw [amH];omega
 have e46:((k:Int) == 46)=false:=by rw [amH];omega
 have a1:decide ((6:Int)≤(k:Int))=true:=amW (by omega);have a2:decide ((k:Int)≤(18:Int))=false:=amX (by omega);have N:=O (show Mist.shapeOf k n=none from (by unfold Mist.shapeOf;repeat (first | rw [if_neg (by omega)] | rw [if_pos (by omega)])));have P:((k:Int) == 23)=false:=by rw [amH];omega
 go_in
 go_wp2_with fail;refine (cO _ _).mono ?_;rintro e w1⟨rfl,g⟩;go_wp2_with fail;refine (cO _ _).mono ?_;rintro e w2⟨rfl,i⟩;go_wp2_with fail;refine (cO _ _).mono ?_;rintro e l⟨rfl,j⟩;have t:=O (jU g i j);have hz:=t.o.1;clear g i j;go_upto_region 5 with (fail)
 obtain⟨w5,G,c,m,qZ,Ms,hs7,Qv,-,f,-,-,-⟩:=t.o.2;rw [G];clear G hz t;have I:=f.o.cell 0;have J:=f.o.cell 1;have K:=f.o.cell 2;have ho5:=f.o.lt;have L:=m.o.cell 0;have p2:=m.o.cell 2;have A:=c.o.cell 0;have B:=c.o.cell 1;have C:=c.o.cell 2;have D:=c.o.cell 3;have r0:=c.o.frozen 0;have r1:=c.o.frozen 1;have r2:=c.o.frozen 2;have M:=c.o.frozen 3;go_wp2_with fail;have hp5:=m.o.lt;have hne:w.heap.size ≠ l.heap.size:=fun e=>c.o.ne_ f.o (by decide) (by rw [e])
 go_region_held3 (fun q=>q.cell? ⟨w.heap.size,0,none⟩=some (.int .u8 k)∧q.cell? ⟨l.heap.size+1,0,none⟩=some (.int .i64 2)∧q.cell? ⟨l.heap.size+1,1,none⟩=some (.int .i64 2)∧q.cell? ⟨l.heap.size+1,2,none⟩=some (.func (.func 142) #[] #[]))
  (first | go_keep|(go_split_ands;refine⟨?_,?_,?_,?_⟩ <;> assumption)|(go_split_ands;refine⟨?_,?_,?_,?_⟩ <;> go_keep))
  ((go_at_call 143;refine (BZ _ _ _ _).mono ?_;rintro e r⟨rfl,b⟩;have Ux:=O b;have u:=O (show bY r w.heap.size 56 #[.int .u8 k,.string (aG x),.int .i64 n,.slice E H F,.int .i64 a] from bY.below (by repeat (first|(with_reducible exact m.o)|(with_reducible refine bY.alloc ?_ _)|(with_reducible refine bY.drew ?_))) b (by first | omega|(simp;omega)));have y:=O (show bY r (l.heap.size+1) 185 #[.int .i64 2,.int .i64 2,.func (.func 142) #[] #[]] from bY.below (by repeat (first|(with_reducible exact f.o)|(with_reducible refine bY.alloc ?_ _)|(with_reducible refine bY.drew ?_))) b (by first | omega|(simp;omega)));have d:=O (show bY r (w.heap.size+1) 163 #[.bool false,.int .i64 0,.int .i64 0,.slice none 0 0] from bY.below (by repeat (first|(with_reducible exact c.o)|(with_reducible refine bY.alloc ?_ _)|(with_reducible refine bY.drew ?_))) b (by first | omega|(simp;omega)));have sI:=O (show Below w.heap.size w r from Below.trans (by repeat (first|(with_reducible exact qZ.o)|(with_reducible refine aU ?_ ?_)|(with_reducible refine Below.drew ?_) | omega|(simp;omega))) (b.mono (by first | omega|(simp;omega))));clear b L p2 A B C D r0 r1 r2 M I J K;have L:=u.o.cell 0;have I:=y.o.cell 0;have J:=y.o.cell 1;have K:=y.o.cell 2;have A:=d.o.cell 0;have B:=d.o.cell 1;have C:=d.o.cell 2;have D:=d.o.cell 3;have r0:=d.o.frozen 0;have r1:=d.o.frozen 1;have r2:=d.o.frozen 2;have M:=d.o.frozen 3;have hs9:=d.o.lt))
 all_goals
  go_wp2_with fail;refine bodyPost_ret (v:=.tuple #[.agg #[.bool false,.int .i64 0,.int .i64 0,.slice (some ⟨w5.heap.size,0,none⟩) 1 1],.bool false]) (by simp [results,Tryz.f114,go_sem,A,B,C,D]) rfl ?_
  refine⟨_,_,_,_,_,_,_,rfl,?_,?_⟩
  ·repeat (first|(with_reducible exact sI.o)|(with_reducible refine gQ ?_ ?_)|(with_reducible refine aU ?_ ?_)|(with_reducible refine Below.drew ?_) | omega|(simp;omega))
  ·rw [N.o]
theorem wW {P:Program}{d:Region.Mode}{l:List Oper}{Q:Exit→Act→World→Prop}{S:World→Prop}{i:Nat}{e:Oper}{b:Nat}{listed:Array Bool}{a:Act}{w:World}(hi:Nth l i e)
  (j:Region.noSelect l.toArray=true) (f:Region.free d l.toArray listed i=true) (g:(Region.ready d l.toArray listed).contains i=true)
  (hQ:∀ c a w,Q (.panic c) (a.put e.dst undef) w→Q (.panic c) a w) (hy:Region.wanted e (yielded l.toArray a.tmps)=false) (hS:S w)
  (h:wpAnyH P d l.toArray Q S b (listed.setIfInBounds i true) (a.put e.dst undef) w):wpAnyH P d l.toArray Q S (b+1) listed a w :=
 wpAnyH_take hi.get j f g hQ (Or.inr ⟨hy,rfl⟩) hS h
theorem ac1 (k:Nat)(x:Bs)(n a:Int)(P:Option Addr)(U Q:Nat)(w:World)(h:6≤k∧k≤18):Calls Tryz.prog 114 #[.agg #[.int .u8 k,.string (aG x),.int .i64 n,.slice P U Q,.int .i64 a]] w (iQ (Mist.shapeOf k n) w):=by
 have e1:((k:Int) == 1)=false:=by rw [amH];omega
 have e2:((k:Int) == 2)=false:=by rw [amH];omega
 have e3:((k:Int) == 3)=false:=by rw [amH];omega
 have e32:((k:Int) == 32)=false:=by rw [amH];omega
 have e45:((k:Int) == 45)=false:=by rw [amH];omega
 have e4:((k:Int) == 4)=false:=by rw [amH];omega
 have e5:((k:Int) == 5)=false:=by rw [amH];omega
 have e19:((k:Int) == 19)=false:=by rw [amH];omega
 have e20:((k:Int) == 20)=false:=by rw [amH];omega
 have e21:((k:Int) == 21)=false:=by rw [amH];omega
 have e22:((k:Int) == 22)=false:=by rw [amH];omega
 have e25:((k:Int) == 25)=false:=by rw [amH];omega
 have e43:((k:Int) == 43)=false:=by rw [amH];omega
 have e44:((k:Int) == 44)=false:=by rw [amH];omega
 have e24:((k:Int) == 24)=false:=by rw [amH];omega
 have e26:((k:Int) == 26)=false:=by rw [amH];omega
 have e30:((k:Int) == 30)=false:=by rw [amH];omega
 have e31:((k:Int) == 31)=false:=by rw [amH];omega
 have e33:((k:Int) == 33)=false:=by rw [amH];omega
 have e34:((k:Int) == 34)=false:=by rw [amH];omega
 have e40:((k:Int) == 40)=false:=by rw [amH];omega
 have e41:((k:Int) == 41)=false:=by rw [amH];omega
 have e42:((k:Int) == 42)=false:=by rw [amH];omega
 have e46:((k:Int) == 46)=false:=by rw [amH];omega
 have a1:decide ((6:Int)≤(k:Int))=true:=amW (by omega);have a2:decide ((k:Int)≤(18:Int))=true:=amW (by omega);have Y:=O (show Mist.shapeOf k n=some ⟨false,0,0,[⟨2,2,.expr⟩]⟩ from (by unfold Mist.shapeOf;repeat (first | rw [if_neg (by omega)] | rw [if_pos (by omega)])));go_in
 go_wp2_with fail;refine (cO _ _).mono ?_;rintro e w1⟨rfl,q⟩;go_wp2_with fail;refine (cO _ _).mono ?_;rintro e w2⟨rfl,r⟩;go_wp2_with fail;refine (cO _ _).mono ?_;rintro e u⟨rfl,t⟩;have G:=O (jU q r t);have hz:=G.o.1;clear q r t;go_upto_region 5 with (fail)
 obtain⟨W,R,f,y,qZ,Ms,hs7,Qv,-,l,-,-,-⟩:=G.o.2;rw [R];clear R hz G;have A:=l.o.cell 0;have B:=l.o.cell 1;have C:=l.o.cell 2;have ho5:=l.o.lt;have D:=y.o.cell 0;have p2:=y.o.cell 2;have J:=f.o.cell 0;have L:=f.o.cell 1;have M:=f.o.cell 2;have N:=f.o.cell 3;have r0:=f.o.frozen 0;have r1:=f.o.frozen 1;have r2:=f.o.frozen 2;have V:=f.o.frozen 3;go_wp2_with fail;have hp5:=y.o.lt;have hne:w.heap.size ≠ u.heap.size:=fun e=>f.o.ne_ l.o (by decide) (by rw [e])
 refine wp_region_noPanic ?_;refine wp_region_held_drew (S:=fun E=>E.cell? ⟨w.heap.size,0,none⟩=some (.int .u8 k)∧E.cell? ⟨u.heap.size+1,0,none⟩=some (.int .i64 2)∧E.cell? ⟨u.heap.size+1,1,none⟩=some (.int .i64 2)∧E.cell? ⟨u.heap.size+1,2,none⟩=some (.func (.func 142) #[] #[])) (by kernel_rfl) ⟨D,A,B,C⟩ (fun b=>?_);refine cB 0 rfl b ?_;simp only [Act.put,amC,amD,amE];refine cB 1 rfl b ?_;simp only [Act.put,amC,amD,amE];refine cB 4 rfl b ?_;simp only [Act.put,amC,amD,amE];refine cB 5 rfl b ?_;simp only [Act.put,amC,amD,amE];refine cB 6 rfl b ?_;simp only [Act.put,amC,amD,amE];refine wpAnyH_ready (rs:=[2]) (by kernel_rfl) (by simp) ?_;refine gM (.s (.s .z)) (fun K m=>?_);go_simp;refine m.out _ _ ?_ (fun X=>?_)
 ·(refine⟨?_,?_,?_,?_⟩ <;> go_keep)
 (try simp only [Act.put,amC,amD,amE])
 refine wpAnyH_ready (rs:=[3]) (by kernel_rfl) (by simp) ?_;refine gM (.s (.s (.s .z))) (fun K m=>?_);go_simp;refine (BZ _ _ _ _).mono ?_;rintro e F⟨rfl,d⟩;have Ux:=O d;have H:=O (show bY F w.heap.size 56 #[.int .u8 k,.string (aG x),.int .i64 n,.slice P U Q,.int .i64 a] from bY.below (by repeat (first|(with_reducible exact y.o)|(with_reducible refine bY.alloc ?_ _)|(with_reducible refine bY.drew ?_))) d (by first | omega|(simp;omega)));have I:=O (show bY F (u.heap.size+1) 185 #[.int .i64 2,.int .i64 2,.func (.func 142) #[] #[]] from bY.below (by repeat (first|(with_reducible exact l.o)|(with_reducible refine bY.alloc ?_ _)|(with_reducible refine bY.drew ?_))) d (by first | omega|(simp;omega)));have j:=O (show bY F (w.heap.size+1) 163 #[.bool false,.int .i64 0,.int .i64 0,.slice none 0 0] from bY.below (by repeat (first|(with_reducible exact f.o)|(with_reducible refine bY.alloc ?_ _)|(with_reducible refine bY.drew ?_))) d (by first | omega|(simp;omega)));have sI:=O (show Below w.heap.size w F from Below.trans (by repeat (first|(with_reducible exact qZ.o)|(with_reducible refine aU ?_ ?_)|(with_reducible refine Below.drew ?_) | omega|(simp;omega))) (d.mono (by first | omega|(simp;omega))));clear d D p2 J L M N r0 r1 r2 V A B C;have D:=H.o.cell 0;have A:=I.o.cell 0;have B:=I.o.cell 1;have C:=I.o.cell 2;have J:=j.o.cell 0;have L:=j.o.cell 1;have M:=j.o.cell 2;have N:=j.o.cell 3;have r0:=j.o.frozen 0;have r1:=j.o.frozen 1;have r2:=j.o.frozen 2;have V:=j.o.frozen 3;have hs9:=j.o.lt;clear b X;refine m.out _ _ ⟨D,A,B,C⟩ (fun g=>?_)
 (try simp only [Act.put,amC,amD,amE])
 refine cB 7 rfl g ?_;simp only [Act.put,amC,amD,amE];refine cB 8 rfl g ?_;simp only [Act.put,amC,amD,amE];refine cB 9 rfl g ?_;simp only [Act.put,amC,amD,amE];refine kW (i:=10) (.s (.s (.s (.s (.s (.s (.s (.s (.s (.s .z)))))))))) (by kernel_rfl) (by kernel_rfl) (by kernel_rfl) (fun _ _ _ h=>h) (v:=?_) ⟨by rfl,?_⟩ g ?_;rotate_left
 ·(intro w0 c;(try dsimp only at c);go_split_ands;go_simp;try with_reducible rfl)
 simp only [Act.put,amC,amD,amE];refine kW (i:=11) (.s (.s (.s (.s (.s (.s (.s (.s (.s (.s (.s .z))))))))))) (by kernel_rfl) (by kernel_rfl) (by kernel_rfl) (fun _ _ _ h=>h) (v:=?_) ⟨by rfl,?_⟩ g ?_;rotate_left
 ·(intro w0 c;(try dsimp only at c);go_split_ands;go_simp;try with_reducible rfl)
 simp only [Act.put,amC,amD,amE];refine kW (i:=12) (.s (.s (.s (.s (.s (.s (.s (.s (.s (.s (.s (.s .z)))))))))))) (by kernel_rfl) (by kernel_rfl) (by kernel_rfl) (fun _ _ _ h=>h) (v:=?_) ⟨by rfl,?_⟩ g ?_;rotate_left
 ·(intro w0 c;(try dsimp only at c);go_split_ands;go_simp;try with_reducible rfl)
 simp only [Act.put,amC,amD,amE];refine wW (i:=13) (.s (.s (.s (.s (.s (.s (.s (.s (.s (.s (.s (.s (.s .z))))))))))))) (by kernel_rfl) (by kernel_rfl) (by kernel_rfl) (fun _ _ _ h=>h) (by rfl) g ?_;simp only [Act.put,amC,amD,amE];refine wW (i:=14) (.s (.s (.s (.s (.s (.s (.s (.s (.s (.s (.s (.s (.s (.s .z)))))))))))))) (by kernel_rfl) (by kernel_rfl) (by kernel_rfl) (fun _ _ _ h=>h) (by rfl) g ?_;simp only [Act.put,amC,amD,amE];refine wW (i:=15) (.s (.s (.s (.s (.s (.s (.s (.s (.s (.s (.s (.s (.s (.s (.s .z))))))))))))))) (by kernel_rfl) (by kernel_rfl) (by kernel_rfl) (fun _ _ _ h=>h) (by rfl) g ?_;simp only [Act.put,amC,amD,amE];refine kW (i:=16) (.s (.s (.s (.s (.s (.s (.s (.s (.s (.s (.s (.s (.s (.s (.s (.s .z)))))))))))))))) (by kernel_rfl) (by kernel_rfl) (by kernel_rfl) (fun _ _ _ h=>h) (v:=?_) ⟨by rfl,?_⟩ g ?_;rotate_left
 ·(intro w0 c;(try dsimp only at c);go_split_ands;go_simp;try with_reducible rfl)
 simp only [Act.put,amC,amD,amE];refine wpAnyH_ready (rs:=[17]) (by kernel_rfl) (by simp) ?_;refine gM (.s (.s (.s (.s (.s (.s (.s (.s (.s (.s (.s (.s (.s (.s (.s (.s (.s .z))))))))))))))))) (fun K m=>?_);go_simp;refine m.out _ _ ?_ (fun Z=>?_)
 ·(refine⟨?_,?_,?_,?_⟩ <;> go_keep)
 (try simp only [Act.put,amC,amD,amE])
 refine kW (i:=18) (.s (.s (.s (.s (.s (.s (.s (.s (.s (.s (.s (.s (.s (.s (.s (.s (.s (.s .z)))))))))))))))))) (by kernel_rfl) (by kernel_rfl) (by kernel_rfl) (fun _ _ _ h=>h) (v:=?_) ⟨by rfl,?_⟩ Z ?_;rotate_left
 ·(intro w0 c;(try dsimp only at c);go_split_ands;go_simp;try with_reducible rfl)
 simp only [Act.put,amC,amD,amE];refine wpAnyH_done (by kernel_rfl) (NoPanic.normal ?_) _;go_wp2_with fail;refine bodyPost_ret (v:=.tuple #[.agg #[.bool false,.int .i64 0,.int .i64 0,.slice (some ⟨W.heap.size,0,none⟩) 1 1],.bool true]) (by simp [results,Tryz.f114,go_sem,J,L,M,N]) rfl ?_
 refine⟨_,_,_,_,_,_,_,rfl,?_,?_⟩
 ·repeat (first|(with_reducible exact sI.o)|(with_reducible refine gQ ?_ ?_)|(with_reducible refine aU ?_ ?_)|(with_reducible refine Below.drew ?_) | omega|(simp;omega))
 ·rw [Y.o]
  refine⟨rfl,rfl,rfl,rfl,rfl,amL _,?_⟩
  refine fq.one (T:=185) ?_;have hq:=(bY.drew (bY.new W 185 #[.int .i64 2,.int .i64 2,.func (.func 142) #[] #[]])).below Ux.o (by simp)
  repeat (first|(with_reducible refine bY.far ?_ ?_ _)|(with_reducible refine bY.drew ?_) | exact hq|(simp;omega))
