/-
  A part of the proof.
-/
import Derived.Test.YthepmkjggfijoaaGreatDoorSA
import Derived.Deep.Cut
import Derived.Test.YthepmkjggfijoaaGreatDoorS22
set_option linter.all false
set_option maxRecDepth 100000
set_option maxHeartbeats 4000000
namespace Go.Proofs.YthepmkjggfijoaaGreatDoor
open Go.RowKit Mist
theorem Ph (l:List Part)(p:Part):lM (l ++ [p])=lM l+p.least:=by simp [lM]
theorem Md {l M:Int}{c:Pd}{r:List Part}{ks:List Nat}{m:Nat}{rs:Int}(h:Mist.within ((m:Int) - rs) l M=false)(a:ks.length=m)(b:rs=lM r):Mist.fits (⟨l,M,c⟩ :: r) ks=false:=by
 rw [Mist.fits];subst a;subst b;rw [h];rfl
theorem zC {l M:Int}{b:Pd}{r:List Part}{ks:List Nat}{m a:Nat}{rs:Int}(h:Mist.within ((m:Int) - rs) l M=true)(c:ks.length=m)(e:rs=lM r)(d:(m:Int) - rs=(a:Int)):Mist.fits (⟨l,M,b⟩ :: r) ks=((ks.take a).all b.is && Mist.fits r (ks.drop a)):=by
 rw [Mist.fits];subst c;subst e;rw [h,Bool.true_and,d,aaQ]
def zy (ps:List Part):Prop:=ps.length≤3∧∀ p ∈ ps,0≤p.least∧p.least≤801∧0≤p.most∧p.most≤801
theorem Zr (nm:Bool)(lo hi:Int)(ps:List Part)(A:Option Addr)(c:Nat)(ks:List Nat)(K:Option Addr)(kc:Nat)(w:World)(hP:dS w A ps)(hpc:ps.length≤c)(hR:zy ps)(hK:jY w K ks)(hl:ks.length≤1000000)(L:ks.length≤kc) :
  Calls Tryz.prog 105 #[.agg #[.bool nm,.int .i64 lo,.int .i64 hi,.slice A ps.length c],.slice K ks.length kc] w fun e w'=>e=.returned (.bool (Mist.fits ps ks))∧Below w.heap.size w w':=by
 obtain⟨n,hn⟩:∃ n,n=ps.length:=⟨_,rfl⟩;obtain⟨m0,D⟩:∃ m,m=ks.length:=⟨_,rfl⟩;have hn3:n≤3:=by rw [hn];exact hR.1
 rw [← hn] at hpc ⊢
 rw [← D] at hl L ⊢
 have P:=O hn;clear hn;have l:=O D;clear D;have HP:=O hP;clear hP;have HR:=O hR;clear hR;have M:=O hK;clear hK;go_in
 go_wp2_with fail;have Q:=O (aC.new w 119 #[.bool nm,.int .i64 lo,.int .i64 hi,.slice A n c]);have eH:=O (ah (Below.refl w.heap.size w) (aaJ _) (o:=.cells #[.bool nm,.int .i64 lo,.int .i64 hi,.slice A n c] 119));go_loopw [1,14] (fun v i wr=>∃ (k m u:Nat) (a:List Nat) (S:Option Addr),k≤n∧i=.int .i64 k∧v=.slice S m u∧m≤u∧m≤1000000∧Hid (a.length=m)∧Hid (jY wr S a)∧Hid (Mist.fits (ps.drop k) a=Mist.fits ps ks)∧Hid (Below w.heap.size w wr)∧Hid (aC wr w.heap.size 119 #[.bool nm,.int .i64 lo,.int .i64 hi,.slice A n c])) (fun _ i _=>n - (intOf i).toNat)
 case atStart=>exact⟨0,m0,kc,ks,K,aaL _,rfl,rfl,L,hl,O l.o.symm,O (M.o.below eH.o),O rfl,eH,Q⟩
 case round =>
  clear Q eH M l hl L;obtain⟨k,m,u,a,S,hk,rfl,rfl,hmc,hm6,l,M,HF,N,Q⟩:=hrel;obtain⟨H,rfl⟩:∃ H:World,H=wr:=⟨_,rfl⟩;have t3:=Q.o.cell 3;have hsz:=Q.o.lt;by_cases V:k < n
  ·obtain⟨b,rfl,t,J⟩:=HP.o.ex (by rw [← P.o];omega);obtain⟨p,hp⟩:∃ p,ps[k]? = some p:=⟨_,aaD (by rw [← P.o];exact V)⟩;obtain⟨c0,c1,c2⟩:=J k p hp;have d0:=(N.o.cell (p:=⟨b,k * 3,none⟩) t).trans c0;have d1:=(N.o.cell (p:=⟨b,k * 3+1,none⟩) t).trans c1;have d2:=(N.o.cell (p:=⟨b,k * 3+2,none⟩) t).trans c2;have hpr:=HR.o.2 p (aaM hp);have HCL:=O J;have HPP:=O hp;clear c0 c1 c2 J hp;simp only [KM] at d2
   obtain⟨d,f,R⟩:=p;simp only at d0 d1 d2 hpr
   have i1:(0:Int)≤(k:Int):=by omega
   have i2:(k:Int) < (n:Int):=by omega
   have HD:=O (show ps.drop k=⟨d,f,R⟩ :: ps.drop (k+1) by
    rw [aaX (by rw [← P.o];exact V),(aaE.1 HPP.o).2])
   have TH:=O (show Mist.fits (⟨d,f,R⟩ :: ps.drop (k+1)) a=Mist.fits ps ks by rw [← HD.o];exact HF.o);clear HF HD;obtain⟨q,hq⟩:∃ q,q=MQ R:=⟨_,rfl⟩;rw [← hq] at d2
   have HQ:=O hq;clear hq;have hkc2:k+1≤c:=by omega
   rcases Classical.em (c=k+1) with rfl | hck
   all_goals
    go_wp2_with fail;have C:=O (aC.new H 152 #[.int .i64 d,.int .i64 f,.func (.func q) #[] #[]]);have B:=O (ah N.o N.o.size (o:=.cells #[.int .i64 d,.int .i64 f,.func (.func q) #[] #[]] 152));go_loopw [7,25] (fun v j xD=>∃ (g:Nat) (rs:Int),g≤n - (k+1)∧j=.int .i64 g∧v=.int .i64 rs∧0≤rs∧rs≤801 * (g:Int)∧Hid (rs=lM ((ps.drop (k+1)).take g))∧Hid (Below w.heap.size w xD)∧Hid (aC xD H.heap.size 152 #[.int .i64 d,.int .i64 f,.func (.func q) #[] #[]])∧Hid (Below H.heap.size H xD)) (fun _ j _=>n - (k+1) - (intOf j).toNat)
    case atStart=>exact⟨0,0,aaL _,rfl,rfl,Int.le_refl _,by omega,O (by simp [lM]),B,C,O (ah (Below.refl _ _) (aaJ _))⟩
    case round =>
     clear B C;obtain⟨g,rs,hj,rfl,rfl,hr0,hr1,Jr,B,C,r⟩:=hrel;by_cases T:g < n - (k+1)
     ·first
      | (exfalso;omega)
      | (obtain ⟨p2, E⟩ : ∃ p2, ps[k + 1 + g]? = some p2 := ⟨_, aaD (by rw [← P.o]; omega)⟩
         obtain⟨e0,e1,e2⟩:=HCL.o (k+1+g) p2 E;have W:=HR.o.2 p2 (aaM E);have g0:=(B.o.cell (p:=⟨b,(k+1+g) * 3,none⟩) t).trans e0;have g1:=(B.o.cell (p:=⟨b,(k+1+g) * 3+1,none⟩) t).trans e1;have g2:=(B.o.cell (p:=⟨b,(k+1+g) * 3+2,none⟩) t).trans e2;rw [show (k+1+g) * 3=(k+1) * 3+g * 3 by omega] at g0 g1 g2
         have HP2:=O E;clear e0 e1 e2 E;simp only [KM] at g2
         obtain⟨G,Z,pd2⟩:=p2;simp only at g0 g1 g2 W
         obtain⟨q2,X⟩:∃ q,q=MQ pd2:=⟨_,rfl⟩;rw [← X] at g2
         clear X;have j1:(0:Int)≤(g:Int):=by omega
         have j2:(g:Int) < ((n - (k+1):Nat):Int):=by omega
         have j3:decide (g < n - (k+1))=true:=aaU T;go_wp2_with fail
         refine⟨⟨g+1,rs+G,by omega,by go_num,rfl,by omega,by omega,O ?_,O (ah B.o B.o.size),O (C.o.alloc _),O (ah r.o r.o.size)⟩,by simp [intOf];omega⟩
         rw [List.take_add_one,List.getElem?_drop,HP2.o,Jr.o];exact (Ph _ (⟨G,Z,pd2⟩:Part)).symm)
     ·have y:=O (show rs=lM (ps.drop (k+1)) by rw [Jr.o,aaN (by rw [List.length_drop,← P.o];omega)]);clear Jr;have hsz6:=C.o.lt;have j3:decide (g < n - (k+1))=false:=aaV T;have b0:=C.o.cell 0;have b1:=C.o.cell 1;have hjn:(g:Int)≤3:=by omega
      have hrs3:rs≤2403:=by omega
      have D:(0:Int)≤(m:Int):=by omega
      have hm1:(m:Int)≤1000000:=by omega
      cases Y:Mist.within ((m:Int) - rs) d f
      ·have I:=O Y;clear Y;go_wp2_with fail;refine (dU ((m:Int) - rs) d f false I.o _).mono ?_;rintro e w2⟨rfl,rfl⟩;go_wp2_with fail;go_ret;exact⟨bD (by rw [← TH.o,Md I.o l.o y.o]),B.o⟩
      ·have I:=O Y;have hw2:d≤(m:Int) - rs∧(m:Int) - rs≤f:=by simpa [Mist.within] using Y
       obtain⟨h,hnn⟩:∃ h:Nat,(m:Int) - rs=(h:Int):=⟨((m:Int) - rs).toNat,by omega⟩;have pF:=O hnn;have hnm:h≤m:=by omega
       clear Y;have n1:(0:Int)≤(h:Int):=by omega
       have n2:(h:Int)≤(m:Int):=by omega
       cases F:(a.take h).all R.is
       ·have x:=O F;clear F;go_wp2_with fail;refine (dU _ d f true (by rw [← pF.o];exact I.o) _).mono ?_;rintro e w2⟨rfl,rfl⟩;go_wp2_with fail;refine (wU R (a.take h) h (by rw [List.length_take,l.o];omega) S u _ ((M.o.below r.o).take h) (by rw [List.length_take,l.o];omega) _ _ H.heap.size 152 (by rw [KM,← HQ.o];exact C.o) false x.o).mono ?_;rintro e w3⟨rfl,rfl⟩;go_wp2_with fail;go_ret;exact⟨bD (by rw [← TH.o,zC I.o l.o y.o pF.o,x.o,Bool.false_and]),B.o⟩
       ·have x:=O F;clear F;by_cases U:u=h
        all_goals
         go_wp2_with fail;refine (dU _ d f true (by rw [← pF.o];exact I.o) _).mono ?_;rintro e w2⟨rfl,rfl⟩;go_wp2_with fail;refine (wU R (a.take h) h (by rw [List.length_take,l.o];omega) S _ _ ((M.o.below r.o).take h) (by rw [List.length_take,l.o];omega) _ _ H.heap.size 152 (by rw [KM,← HQ.o];exact C.o) true x.o).mono ?_;rintro e w3⟨rfl,rfl⟩;go_wp2_with fail;have AQ:=O ((M.o.below r.o).drop (n:=h) (c:=u) (by rw [l.o];exact hmc))
         refine⟨⟨k+1,m - h,_,a.drop h,_,by omega,by go_num,rfl,by omega,by omega,O (by rw [List.length_drop,l.o]),O (by have h9:=AQ.o;first | rwa [if_pos U] at h9 | rwa [if_neg U] at h9),O (by have h9:=TH.o;rw [zC I.o l.o y.o pF.o,x.o,Bool.true_and] at h9;exact h9),B,O (Q.o.below r.o hsz)⟩,by simp [intOf];omega⟩
  ·have HE:=O (show Mist.fits ps ks=decide (m=0) by
    rw [← HF.o,List.drop_of_length_le (by rw [← P.o];omega),← l.o,Mist.fits]
    cases a <;> simp)
   go_wp2_with fail;go_ret
   refine⟨bD ?_,N.o⟩
   rw [HE.o,aaI];simp
end Go.Proofs.YthepmkjggfijoaaGreatDoor
namespace Go.Proofs.YthepmkjggfijoaaGreatDoor
open Go.RowKit Mist
attribute [local go_sem] aj aH aS aB ak
theorem shape_k1 (x:Bs)(n a:Int)(j:Option Addr)(r k:Nat)(w:World):Calls Tryz.prog 103 #[.agg #[.int .u8 1,.string (aM x),.int .i64 n,.slice j r k,.int .i64 a]] w (eB (Mist.shapeOf 1 n) w):=by
 go_in
 go_wp2_with fail;refine (aG _ _).mono ?_;rintro e w1⟨rfl,c⟩;go_wp2_with fail;refine (aG _ _).mono ?_;rintro e G⟨rfl,d⟩;go_wp2_with fail;refine (aG _ _).mono ?_;rintro e H⟨rfl,f⟩;have g:=O (fP c d f);have m:=g.o.1;clear c d f;go_upto_region 5 with (fail)
 obtain⟨I,h,b,i,q,F,l,B,-⟩:=g.o.2;rw [h];clear h m g;have C:=i.o.cell 0;have D:=i.o.cell 2;have t:=b.o.cell 0;have u:=b.o.cell 1;have y:=b.o.cell 2;have A:=b.o.cell 3;have r0:=b.o.frozen 0;have r1:=b.o.frozen 1;have r2:=b.o.frozen 2;have E:=b.o.frozen 3;go_wp2_with fail;refine bodyPost_ret (v:=.tuple #[.agg #[.bool false,.int .i64 0,.int .i64 9999,.slice none 0 0],.bool true]) (by simp [results,Tryz.f103,go_sem,t,u,y,A]) rfl ?_
 refine⟨_,_,_,_,_,_,_,rfl,?_,rfl,rfl,rfl,rfl,rfl,aaJ _,?_⟩
 ·repeat (first|(with_reducible exact q.o)|(with_reducible refine dx ?_ ?_)|(with_reducible refine ah ?_ ?_) | omega|(simp;omega))
 ·exact dS.nil _
theorem shape_k2 (x:Bs)(n a:Int)(j:Option Addr)(r k:Nat)(w:World):Calls Tryz.prog 103 #[.agg #[.int .u8 2,.string (aM x),.int .i64 n,.slice j r k,.int .i64 a]] w (eB (Mist.shapeOf 2 n) w):=by
 go_in
 go_wp2_with fail;refine (aG _ _).mono ?_;rintro e w1⟨rfl,c⟩;go_wp2_with fail;refine (aG _ _).mono ?_;rintro e G⟨rfl,d⟩;go_wp2_with fail;refine (aG _ _).mono ?_;rintro e H⟨rfl,f⟩;have g:=O (fP c d f);have m:=g.o.1;clear c d f;go_upto_region 5 with (fail)
 obtain⟨I,h,b,i,q,F,l,B,-⟩:=g.o.2;rw [h];clear h m g;have C:=i.o.cell 0;have D:=i.o.cell 2;have t:=b.o.cell 0;have u:=b.o.cell 1;have y:=b.o.cell 2;have A:=b.o.cell 3;have r0:=b.o.frozen 0;have r1:=b.o.frozen 1;have r2:=b.o.frozen 2;have E:=b.o.frozen 3;go_wp2_with fail;refine bodyPost_ret (v:=.tuple #[.agg #[.bool false,.int .i64 0,.int .i64 1,.slice none 0 0],.bool true]) (by simp [results,Tryz.f103,go_sem,t,u,y,A]) rfl ?_
 refine⟨_,_,_,_,_,_,_,rfl,?_,rfl,rfl,rfl,rfl,rfl,aaJ _,?_⟩
 ·repeat (first|(with_reducible exact q.o)|(with_reducible refine dx ?_ ?_)|(with_reducible refine ah ?_ ?_) | omega|(simp;omega))
 ·exact dS.nil _
theorem WM (x:Bs)(n a:Int)(j:Option Addr)(r k:Nat)(w:World):Calls Tryz.prog 103 #[.agg #[.int .u8 30,.string (aM x),.int .i64 n,.slice j r k,.int .i64 a]] w (eB (Mist.shapeOf 30 n) w):=by
 go_in
 go_wp2_with fail;refine (aG _ _).mono ?_;rintro e w1⟨rfl,c⟩;go_wp2_with fail;refine (aG _ _).mono ?_;rintro e G⟨rfl,d⟩;go_wp2_with fail;refine (aG _ _).mono ?_;rintro e H⟨rfl,f⟩;have g:=O (fP c d f);have m:=g.o.1;clear c d f;go_upto_region 5 with (fail)
 obtain⟨I,h,b,i,q,F,l,B,-⟩:=g.o.2;rw [h];clear h m g;have C:=i.o.cell 0;have D:=i.o.cell 2;have t:=b.o.cell 0;have u:=b.o.cell 1;have y:=b.o.cell 2;have A:=b.o.cell 3;have r0:=b.o.frozen 0;have r1:=b.o.frozen 1;have r2:=b.o.frozen 2;have E:=b.o.frozen 3;go_wp2_with fail;refine bodyPost_ret (v:=.tuple #[.agg #[.bool false,.int .i64 0,.int .i64 0,.slice none 0 0],.bool true]) (by simp [results,Tryz.f103,go_sem,t,u,y,A]) rfl ?_
 refine⟨_,_,_,_,_,_,_,rfl,?_,rfl,rfl,rfl,rfl,rfl,aaJ _,?_⟩
 ·repeat (first|(with_reducible exact q.o)|(with_reducible refine dx ?_ ?_)|(with_reducible refine ah ?_ ?_) | omega|(simp;omega))
 ·exact dS.nil _
theorem WO (x:Bs)(n a:Int)(j:Option Addr)(r k:Nat)(w:World):Calls Tryz.prog 103 #[.agg #[.int .u8 31,.string (aM x),.int .i64 n,.slice j r k,.int .i64 a]] w (eB (Mist.shapeOf 31 n) w):=by
 go_in
 go_wp2_with fail;refine (aG _ _).mono ?_;rintro e w1⟨rfl,c⟩;go_wp2_with fail;refine (aG _ _).mono ?_;rintro e G⟨rfl,d⟩;go_wp2_with fail;refine (aG _ _).mono ?_;rintro e H⟨rfl,f⟩;have g:=O (fP c d f);have m:=g.o.1;clear c d f;go_upto_region 5 with (fail)
 obtain⟨I,h,b,i,q,F,l,B,-⟩:=g.o.2;rw [h];clear h m g;have C:=i.o.cell 0;have D:=i.o.cell 2;have t:=b.o.cell 0;have u:=b.o.cell 1;have y:=b.o.cell 2;have A:=b.o.cell 3;have r0:=b.o.frozen 0;have r1:=b.o.frozen 1;have r2:=b.o.frozen 2;have E:=b.o.frozen 3;go_wp2_with fail;refine bodyPost_ret (v:=.tuple #[.agg #[.bool false,.int .i64 0,.int .i64 0,.slice none 0 0],.bool true]) (by simp [results,Tryz.f103,go_sem,t,u,y,A]) rfl ?_
 refine⟨_,_,_,_,_,_,_,rfl,?_,rfl,rfl,rfl,rfl,rfl,aaJ _,?_⟩
 ·repeat (first|(with_reducible exact q.o)|(with_reducible refine dx ?_ ?_)|(with_reducible refine ah ?_ ?_) | omega|(simp;omega))
 ·exact dS.nil _
theorem shape_k3 (x:Bs)(n a:Int)(y:Option Addr)(F A:Nat)(w:World):Calls Tryz.prog 103 #[.agg #[.int .u8 3,.string (aM x),.int .i64 n,.slice y F A,.int .i64 a]] w (eB (Mist.shapeOf 3 n) w):=by
 go_in
 go_wp2_with fail;refine (aG _ _).mono ?_;rintro e w1⟨rfl,f⟩;go_wp2_with fail;refine (aG _ _).mono ?_;rintro e K⟨rfl,g⟩;go_wp2_with fail;refine (aG _ _).mono ?_;rintro e L⟨rfl,h⟩;have i:=O (fP f g h);have C:=i.o.1;clear f g h;go_upto_region 5 with (fail)
 obtain⟨M,q,b,r,D,J,B,G,-⟩:=i.o.2;rw [q];clear q C i;have H:=r.o.cell 0;have I:=r.o.cell 2;have j:=b.o.cell 0;have k:=b.o.cell 1;have l:=b.o.cell 2;have m:=b.o.cell 3;have r0:=b.o.frozen 0;have r1:=b.o.frozen 1;have r2:=b.o.frozen 2;have t:=b.o.frozen 3;go_wp2_with fail;refine (mZ _ _ _ _).mono ?_;rintro e u⟨rfl,d⟩;have c:=O (show aC u (w.heap.size+1) 119 #[.bool false,.int .i64 0,.int .i64 0,.slice none 0 0] from aC.below (by repeat (first|(with_reducible exact b.o)|(with_reducible refine aC.alloc ?_ _))) d (by first | omega|(simp;omega)));have E:=O (show Below w.heap.size w u from Below.trans (by repeat (first|(with_reducible exact D.o)|(with_reducible refine dx ?_ ?_)|(with_reducible refine ah ?_ ?_) | omega|(simp;omega))) (d.mono (by first | omega|(simp;omega))));clear d;clear j k l m r0 r1 r2 t;have j:=c.o.cell 0;have k:=c.o.cell 1;have l:=c.o.cell 2;have m:=c.o.cell 3;have r0:=c.o.frozen 0;have r1:=c.o.frozen 1;have r2:=c.o.frozen 2;have t:=c.o.frozen 3;go_wp2_with fail;refine bodyPost_ret (v:=.tuple #[.agg #[.bool true,.int .i64 0,.int .i64 0,.slice none 0 0],.bool true]) (by simp [results,Tryz.f103,go_sem,j,k,l,m]) rfl ?_
 refine⟨_,_,_,_,_,_,_,rfl,?_,rfl,rfl,rfl,rfl,rfl,aaJ _,?_⟩
 ·repeat (first|(with_reducible exact E.o)|(with_reducible refine dx ?_ ?_)|(with_reducible refine ah ?_ ?_) | omega|(simp;omega))
 ·exact dS.nil _
theorem WQ (x:Bs)(n a:Int)(y:Option Addr)(F A:Nat)(w:World):Calls Tryz.prog 103 #[.agg #[.int .u8 32,.string (aM x),.int .i64 n,.slice y F A,.int .i64 a]] w (eB (Mist.shapeOf 32 n) w):=by
 go_in
 go_wp2_with fail;refine (aG _ _).mono ?_;rintro e w1⟨rfl,f⟩;go_wp2_with fail;refine (aG _ _).mono ?_;rintro e K⟨rfl,g⟩;go_wp2_with fail;refine (aG _ _).mono ?_;rintro e L⟨rfl,h⟩;have i:=O (fP f g h);have C:=i.o.1;clear f g h;go_upto_region 5 with (fail)
 obtain⟨M,q,b,r,D,J,B,G,-⟩:=i.o.2;rw [q];clear q C i;have H:=r.o.cell 0;have I:=r.o.cell 2;have j:=b.o.cell 0;have k:=b.o.cell 1;have l:=b.o.cell 2;have m:=b.o.cell 3;have r0:=b.o.frozen 0;have r1:=b.o.frozen 1;have r2:=b.o.frozen 2;have t:=b.o.frozen 3;go_wp2_with fail;refine (mZ _ _ _ _).mono ?_;rintro e u⟨rfl,d⟩;have c:=O (show aC u (w.heap.size+1) 119 #[.bool false,.int .i64 0,.int .i64 0,.slice none 0 0] from aC.below (by repeat (first|(with_reducible exact b.o)|(with_reducible refine aC.alloc ?_ _))) d (by first | omega|(simp;omega)));have E:=O (show Below w.heap.size w u from Below.trans (by repeat (first|(with_reducible exact D.o)|(with_reducible refine dx ?_ ?_)|(with_reducible refine ah ?_ ?_) | omega|(simp;omega))) (d.mono (by first | omega|(simp;omega))));clear d;clear j k l m r0 r1 r2 t;have j:=c.o.cell 0;have k:=c.o.cell 1;have l:=c.o.cell 2;have m:=c.o.cell 3;have r0:=c.o.frozen 0;have r1:=c.o.frozen 1;have r2:=c.o.frozen 2;have t:=c.o.frozen 3;go_wp2_with fail;refine bodyPost_ret (v:=.tuple #[.agg #[.bool true,.int .i64 0,.int .i64 0,.slice none 0 0],.bool true]) (by simp [results,Tryz.f103,go_sem,j,k,l,m]) rfl ?_
 refine⟨_,_,_,_,_,_,_,rfl,?_,rfl,rfl,rfl,rfl,rfl,aaJ _,?_⟩
 ·repeat (first|(with_reducible exact E.o)|(with_reducible refine dx ?_ ?_)|(with_reducible refine ah ?_ ?_) | omega|(simp;omega))
 ·exact dS.nil _
theorem WY (x:Bs)(n a:Int)(y:Option Addr)(F A:Nat)(w:World):Calls Tryz.prog 103 #[.agg #[.int .u8 45,.string (aM x),.int .i64 n,.slice y F A,.int .i64 a]] w (eB (Mist.shapeOf 45 n) w):=by
 go_in
 go_wp2_with fail;refine (aG _ _).mono ?_;rintro e w1⟨rfl,f⟩;go_wp2_with fail;refine (aG _ _).mono ?_;rintro e K⟨rfl,g⟩;go_wp2_with fail;refine (aG _ _).mono ?_;rintro e L⟨rfl,h⟩;have i:=O (fP f g h);have C:=i.o.1;clear f g h;go_upto_region 5 with (fail)
 obtain⟨M,q,b,r,D,J,B,G,-⟩:=i.o.2;rw [q];clear q C i;have H:=r.o.cell 0;have I:=r.o.cell 2;have j:=b.o.cell 0;have k:=b.o.cell 1;have l:=b.o.cell 2;have m:=b.o.cell 3;have r0:=b.o.frozen 0;have r1:=b.o.frozen 1;have r2:=b.o.frozen 2;have t:=b.o.frozen 3;go_wp2_with fail;refine (mZ _ _ _ _).mono ?_;rintro e u⟨rfl,d⟩;have c:=O (show aC u (w.heap.size+1) 119 #[.bool false,.int .i64 0,.int .i64 0,.slice none 0 0] from aC.below (by repeat (first|(with_reducible exact b.o)|(with_reducible refine aC.alloc ?_ _))) d (by first | omega|(simp;omega)));have E:=O (show Below w.heap.size w u from Below.trans (by repeat (first|(with_reducible exact D.o)|(with_reducible refine dx ?_ ?_)|(with_reducible refine ah ?_ ?_) | omega|(simp;omega))) (d.mono (by first | omega|(simp;omega))));clear d;clear j k l m r0 r1 r2 t;have j:=c.o.cell 0;have k:=c.o.cell 1;have l:=c.o.cell 2;have m:=c.o.cell 3;have r0:=c.o.frozen 0;have r1:=c.o.frozen 1;have r2:=c.o.frozen 2;have t:=c.o.frozen 3;go_wp2_with fail;refine bodyPost_ret (v:=.tuple #[.agg #[.bool true,.int .i64 0,.int .i64 0,.slice none 0 0],.bool true]) (by simp [results,Tryz.f103,go_sem,j,k,l,m]) rfl ?_
 refine⟨_,_,_,_,_,_,_,rfl,?_,rfl,rfl,rfl,rfl,rfl,aaJ _,?_⟩
 ·repeat (first|(with_reducible exact E.o)|(with_reducible refine dx ?_ ?_)|(with_reducible refine ah ?_ ?_) | omega|(simp;omega))
 ·exact dS.nil _
theorem shape_k4 (x:Bs)(n a:Int)(A:Option Addr)(H C:Nat)(w:World):Calls Tryz.prog 103 #[.agg #[.int .u8 4,.string (aM x),.int .i64 n,.slice A H C,.int .i64 a]] w (eB (Mist.shapeOf 4 n) w):=by
 go_in
 go_wp2_with fail;refine (aG _ _).mono ?_;rintro e w1⟨rfl,f⟩;go_wp2_with fail;refine (aG _ _).mono ?_;rintro e S⟨rfl,g⟩;go_wp2_with fail;refine (aG _ _).mono ?_;rintro e U⟨rfl,h⟩;have j:=O (fP f g h);have E:=j.o.1;clear f g h;go_upto_region 5 with (fail)
 obtain⟨I,r,b,t,F,R,D,J,i,-,-,-,-⟩:=j.o.2;rw [r];clear r E j;have L:=i.o.cell 0;have M:=i.o.cell 1;have N:=i.o.cell 2;have K:=i.o.lt;have P:=t.o.cell 0;have Q:=t.o.cell 2;have k:=b.o.cell 0;have l:=b.o.cell 1;have m:=b.o.cell 2;have q:=b.o.cell 3;have r0:=b.o.frozen 0;have r1:=b.o.frozen 1;have r2:=b.o.frozen 2;have u:=b.o.frozen 3;go_wp2_with fail;refine (uo _ _ _ _).mono ?_;rintro e y⟨rfl,c⟩;have B:=O (gF c);have d:=O (show aC y (w.heap.size+1) 119 #[.bool false,.int .i64 0,.int .i64 0,.slice none 0 0] from aC.below (by repeat (first|(with_reducible exact b.o)|(with_reducible refine aC.alloc ?_ _))) c (by first | omega|(simp;omega)));have G:=O (show Below w.heap.size w y from Below.trans (by repeat (first|(with_reducible exact F.o)|(with_reducible refine dx ?_ ?_)|(with_reducible refine ah ?_ ?_) | omega|(simp;omega))) (c.mono (by first | omega|(simp;omega))));clear c;clear k l m q r0 r1 r2 u;have k:=d.o.cell 0;have l:=d.o.cell 1;have m:=d.o.cell 2;have q:=d.o.cell 3;have r0:=d.o.frozen 0;have r1:=d.o.frozen 1;have r2:=d.o.frozen 2;have u:=d.o.frozen 3;go_wp2_with fail;refine bodyPost_ret (v:=.tuple #[.agg #[.bool false,.int .i64 0,.int .i64 0,.slice (some ⟨I.heap.size,0,none⟩) 1 1],.bool true]) (by simp [results,Tryz.f103,go_sem,k,l,m,q]) rfl ?_
 refine⟨_,_,_,_,_,_,_,rfl,?_,rfl,rfl,rfl,rfl,rfl,aaJ _,?_⟩
 ·repeat (first|(with_reducible exact G.o)|(with_reducible refine dx ?_ ?_)|(with_reducible refine ah ?_ ?_) | omega|(simp;omega))
 ·refine dS.one (T:=152) ?_
  repeat (first|(with_reducible refine aC.far ?_ ?_ _) | exact B.o|(simp;omega))
theorem shape_k5 (x:Bs)(n a:Int)(A:Option Addr)(H C:Nat)(w:World):Calls Tryz.prog 103 #[.agg #[.int .u8 5,.string (aM x),.int .i64 n,.slice A H C,.int .i64 a]] w (eB (Mist.shapeOf 5 n) w):=by
 go_in
 go_wp2_with fail;refine (aG _ _).mono ?_;rintro e w1⟨rfl,f⟩;go_wp2_with fail;refine (aG _ _).mono ?_;rintro e S⟨rfl,g⟩;go_wp2_with fail;refine (aG _ _).mono ?_;rintro e U⟨rfl,h⟩;have j:=O (fP f g h);have E:=j.o.1;clear f g h;go_upto_region 5 with (fail)
 obtain⟨I,r,b,t,F,R,D,J,i,-,-,-,-⟩:=j.o.2;rw [r];clear r E j;have L:=i.o.cell 0;have M:=i.o.cell 1;have N:=i.o.cell 2;have K:=i.o.lt;have P:=t.o.cell 0;have Q:=t.o.cell 2;have k:=b.o.cell 0;have l:=b.o.cell 1;have m:=b.o.cell 2;have q:=b.o.cell 3;have r0:=b.o.frozen 0;have r1:=b.o.frozen 1;have r2:=b.o.frozen 2;have u:=b.o.frozen 3;go_wp2_with fail;refine (uo _ _ _ _).mono ?_;rintro e y⟨rfl,c⟩;have B:=O (gF c);have d:=O (show aC y (w.heap.size+1) 119 #[.bool false,.int .i64 0,.int .i64 0,.slice none 0 0] from aC.below (by repeat (first|(with_reducible exact b.o)|(with_reducible refine aC.alloc ?_ _))) c (by first | omega|(simp;omega)));have G:=O (show Below w.heap.size w y from Below.trans (by repeat (first|(with_reducible exact F.o)|(with_reducible refine dx ?_ ?_)|(with_reducible refine ah ?_ ?_) | omega|(simp;omega))) (c.mono (by first | omega|(simp;omega))));clear c;clear k l m q r0 r1 r2 u;have k:=d.o.cell 0;have l:=d.o.cell 1;have m:=d.o.cell 2;have q:=d.o.cell 3;have r0:=d.o.frozen 0;have r1:=d.o.frozen 1;have r2:=d.o.frozen 2;have u:=d.o.frozen 3;go_wp2_with fail;refine bodyPost_ret (v:=.tuple #[.agg #[.bool false,.int .i64 0,.int .i64 0,.slice (some ⟨I.heap.size,0,none⟩) 1 1],.bool true]) (by simp [results,Tryz.f103,go_sem,k,l,m,q]) rfl ?_
 refine⟨_,_,_,_,_,_,_,rfl,?_,rfl,rfl,rfl,rfl,rfl,aaJ _,?_⟩
 ·repeat (first|(with_reducible exact G.o)|(with_reducible refine dx ?_ ?_)|(with_reducible refine ah ?_ ?_) | omega|(simp;omega))
 ·refine dS.one (T:=152) ?_
  repeat (first|(with_reducible refine aC.far ?_ ?_ _) | exact B.o|(simp;omega))
theorem WC (x:Bs)(n a:Int)(A:Option Addr)(H C:Nat)(w:World):Calls Tryz.prog 103 #[.agg #[.int .u8 19,.string (aM x),.int .i64 n,.slice A H C,.int .i64 a]] w (eB (Mist.shapeOf 19 n) w):=by
 go_in
 go_wp2_with fail;refine (aG _ _).mono ?_;rintro e w1⟨rfl,f⟩;go_wp2_with fail;refine (aG _ _).mono ?_;rintro e S⟨rfl,g⟩;go_wp2_with fail;refine (aG _ _).mono ?_;rintro e U⟨rfl,h⟩;have j:=O (fP f g h);have E:=j.o.1;clear f g h;go_upto_region 5 with (fail)
 obtain⟨I,r,b,t,F,R,D,J,-,-,i,-,-⟩:=j.o.2;rw [r];clear r E j;have L:=i.o.cell 0;have M:=i.o.cell 1;have N:=i.o.cell 2;have K:=i.o.lt;have P:=t.o.cell 0;have Q:=t.o.cell 2;have k:=b.o.cell 0;have l:=b.o.cell 1;have m:=b.o.cell 2;have q:=b.o.cell 3;have r0:=b.o.frozen 0;have r1:=b.o.frozen 1;have r2:=b.o.frozen 2;have u:=b.o.frozen 3;go_wp2_with fail;refine (uo _ _ _ _).mono ?_;rintro e y⟨rfl,c⟩;have B:=O (gF c);have d:=O (show aC y (w.heap.size+1) 119 #[.bool false,.int .i64 0,.int .i64 0,.slice none 0 0] from aC.below (by repeat (first|(with_reducible exact b.o)|(with_reducible refine aC.alloc ?_ _))) c (by first | omega|(simp;omega)));have G:=O (show Below w.heap.size w y from Below.trans (by repeat (first|(with_reducible exact F.o)|(with_reducible refine dx ?_ ?_)|(with_reducible refine ah ?_ ?_) | omega|(simp;omega))) (c.mono (by first | omega|(simp;omega))));clear c;clear k l m q r0 r1 r2 u;have k:=d.o.cell 0;have l:=d.o.cell 1;have m:=d.o.cell 2;have q:=d.o.cell 3;have r0:=d.o.frozen 0;have r1:=d.o.frozen 1;have r2:=d.o.frozen 2;have u:=d.o.frozen 3;go_wp2_with fail;refine bodyPost_ret (v:=.tuple #[.agg #[.bool false,.int .i64 0,.int .i64 0,.slice (some ⟨I.heap.size,0,none⟩) 1 1],.bool true]) (by simp [results,Tryz.f103,go_sem,k,l,m,q]) rfl ?_
 refine⟨_,_,_,_,_,_,_,rfl,?_,rfl,rfl,rfl,rfl,rfl,aaJ _,?_⟩
 ·repeat (first|(with_reducible exact G.o)|(with_reducible refine dx ?_ ?_)|(with_reducible refine ah ?_ ?_) | omega|(simp;omega))
 ·refine dS.one (T:=152) ?_
  repeat (first|(with_reducible refine aC.far ?_ ?_ _) | exact B.o|(simp;omega))
theorem WL (x:Bs)(n a:Int)(A:Option Addr)(H C:Nat)(w:World):Calls Tryz.prog 103 #[.agg #[.int .u8 26,.string (aM x),.int .i64 n,.slice A H C,.int .i64 a]] w (eB (Mist.shapeOf 26 n) w):=by
 go_in
 go_wp2_with fail;refine (aG _ _).mono ?_;rintro e w1⟨rfl,f⟩;go_wp2_with fail;refine (aG _ _).mono ?_;rintro e S⟨rfl,g⟩;go_wp2_with fail;refine (aG _ _).mono ?_;rintro e U⟨rfl,h⟩;have j:=O (fP f g h);have E:=j.o.1;clear f g h;go_upto_region 5 with (fail)
 obtain⟨I,r,b,t,F,R,D,J,-,-,-,-,i⟩:=j.o.2;rw [r];clear r E j;have L:=i.o.cell 0;have M:=i.o.cell 1;have N:=i.o.cell 2;have K:=i.o.lt;have P:=t.o.cell 0;have Q:=t.o.cell 2;have k:=b.o.cell 0;have l:=b.o.cell 1;have m:=b.o.cell 2;have q:=b.o.cell 3;have r0:=b.o.frozen 0;have r1:=b.o.frozen 1;have r2:=b.o.frozen 2;have u:=b.o.frozen 3;go_wp2_with fail;refine (uo _ _ _ _).mono ?_;rintro e y⟨rfl,c⟩;have B:=O (gF c);have d:=O (show aC y (w.heap.size+1) 119 #[.bool false,.int .i64 0,.int .i64 0,.slice none 0 0] from aC.below (by repeat (first|(with_reducible exact b.o)|(with_reducible refine aC.alloc ?_ _))) c (by first | omega|(simp;omega)));have G:=O (show Below w.heap.size w y from Below.trans (by repeat (first|(with_reducible exact F.o)|(with_reducible refine dx ?_ ?_)|(with_reducible refine ah ?_ ?_) | omega|(simp;omega))) (c.mono (by first | omega|(simp;omega))));clear c;clear k l m q r0 r1 r2 u;have k:=d.o.cell 0;have l:=d.o.cell 1;have m:=d.o.cell 2;have q:=d.o.cell 3;have r0:=d.o.frozen 0;have r1:=d.o.frozen 1;have r2:=d.o.frozen 2;have u:=d.o.frozen 3;go_wp2_with fail;refine bodyPost_ret (v:=.tuple #[.agg #[.bool false,.int .i64 0,.int .i64 0,.slice (some ⟨I.heap.size,0,none⟩) 1 1],.bool true]) (by simp [results,Tryz.f103,go_sem,k,l,m,q]) rfl ?_
 refine⟨_,_,_,_,_,_,_,rfl,?_,rfl,rfl,rfl,rfl,rfl,aaJ _,?_⟩
 ·repeat (first|(with_reducible exact G.o)|(with_reducible refine dx ?_ ?_)|(with_reducible refine ah ?_ ?_) | omega|(simp;omega))
 ·refine dS.one (T:=152) ?_
  repeat (first|(with_reducible refine aC.far ?_ ?_ _) | exact B.o|(simp;omega))
theorem WE (x:Bs)(n a:Int)(A:Option Addr)(H C:Nat)(w:World):Calls Tryz.prog 103 #[.agg #[.int .u8 20,.string (aM x),.int .i64 n,.slice A H C,.int .i64 a]] w (eB (Mist.shapeOf 20 n) w):=by
 go_in
 go_wp2_with fail;refine (aG _ _).mono ?_;rintro e w1⟨rfl,f⟩;go_wp2_with fail;refine (aG _ _).mono ?_;rintro e S⟨rfl,g⟩;go_wp2_with fail;refine (aG _ _).mono ?_;rintro e U⟨rfl,h⟩;have j:=O (fP f g h);have E:=j.o.1;clear f g h;go_upto_region 5 with (fail)
 obtain⟨I,r,b,t,F,R,D,J,-,i,-,-,-⟩:=j.o.2;rw [r];clear r E j;have L:=i.o.cell 0;have M:=i.o.cell 1;have N:=i.o.cell 2;have K:=i.o.lt;have P:=t.o.cell 0;have Q:=t.o.cell 2;have k:=b.o.cell 0;have l:=b.o.cell 1;have m:=b.o.cell 2;have q:=b.o.cell 3;have r0:=b.o.frozen 0;have r1:=b.o.frozen 1;have r2:=b.o.frozen 2;have u:=b.o.frozen 3;go_wp2_with fail;refine (mZ _ _ _ _).mono ?_;rintro e y⟨rfl,c⟩;have B:=O (gF c);have d:=O (show aC y (w.heap.size+1) 119 #[.bool false,.int .i64 0,.int .i64 0,.slice none 0 0] from aC.below (by repeat (first|(with_reducible exact b.o)|(with_reducible refine aC.alloc ?_ _))) c (by first | omega|(simp;omega)));have G:=O (show Below w.heap.size w y from Below.trans (by repeat (first|(with_reducible exact F.o)|(with_reducible refine dx ?_ ?_)|(with_reducible refine ah ?_ ?_) | omega|(simp;omega))) (c.mono (by first | omega|(simp;omega))));clear c;clear k l m q r0 r1 r2 u;have k:=d.o.cell 0;have l:=d.o.cell 1;have m:=d.o.cell 2;have q:=d.o.cell 3;have r0:=d.o.frozen 0;have r1:=d.o.frozen 1;have r2:=d.o.frozen 2;have u:=d.o.frozen 3;go_wp2_with fail;refine bodyPost_ret (v:=.tuple #[.agg #[.bool true,.int .i64 0,.int .i64 0,.slice (some ⟨I.heap.size,0,none⟩) 1 1],.bool true]) (by simp [results,Tryz.f103,go_sem,k,l,m,q]) rfl ?_
 refine⟨_,_,_,_,_,_,_,rfl,?_,rfl,rfl,rfl,rfl,rfl,aaJ _,?_⟩
 ·repeat (first|(with_reducible exact G.o)|(with_reducible refine dx ?_ ?_)|(with_reducible refine ah ?_ ?_) | omega|(simp;omega))
 ·refine dS.one (T:=152) ?_
  repeat (first|(with_reducible refine aC.far ?_ ?_ _) | exact B.o|(simp;omega))
end Go.Proofs.YthepmkjggfijoaaGreatDoor
