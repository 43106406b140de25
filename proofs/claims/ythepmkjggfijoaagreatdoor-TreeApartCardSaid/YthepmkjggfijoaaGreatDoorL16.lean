/-
  A part of the proof.
-/
import Derived.Test.YthepmkjggfijoaaGreatDoorSA
import Derived.Deep.RegionLaw
import Derived.Test.YthepmkjggfijoaaGreatDoorS22
import Derived.Test.YthepmkjggfijoaaGreatDoorS21
import Derived.Test.YthepmkjggfijoaaGreatDoorS08
import Derived.Test.YthepmkjggfijoaaGreatDoorL13
import Derived.Test.YthepmkjggfijoaaGreatDoorL14
import Derived.Test.YthepmkjggfijoaaGreatDoorL15
set_option linter.all false
set_option maxRecDepth 100000
set_option maxHeartbeats 4000000
namespace Go.Proofs.YthepmkjggfijoaaGreatDoor
open Go.RowKit Mist
attribute [local go_sem] aj aH aS aB ak
theorem Kr (g tb:Nat)(nv iv:Value)(xs:List NV)(J:List Int)(Ai:Option Addr)(ci:Nat)(ys:List NV)(from_:Int)(wS w:World)(hJ:JS g w tb nv iv xs J)(hS:0 < ys.length→∃ b o,Ai=some ⟨b,o,none⟩∧oZ wS b o ys)(hb:Below wS.heap.size wS w)(d7:wS.heap.size≤tb)(hg:g≤w.heap.size)
  (hx:xs.length≤10000) (hi:J.length≤10000) (hy:ys.length≤10000) (hf:-100000≤from_∧from_≤100000) (hk:∀ y ∈ ys,∀ k ∈ y.1.kids,-1000000≤k∧k≤1000000) (kb:Nat) (Y:Array Value) (d2:aC w kb 26 Y) (d6:kb ≠ tb) :
  Calls Tryz.prog 67 #[.pointer (some ⟨tb,0,none⟩),.slice Ai ys.length ci,.int .i64 from_] w fun e w'=>e=.returned (.tuple #[])∧Below wS.heap.size wS w'∧aC w' kb 26 Y∧∃ eO AY ext,JS g w' tb eO AY (xs ++ ext) (J ++ gJ xs.length (aA ys))∧aA ext=(aA ys).map (lI ((xs.length:Int) - from_)):=by
 obtain⟨An,cn,rfl⟩:=dh hJ.own;obtain⟨Av,cv,rfl⟩:=dh hJ.row;obtain⟨zA,S⟩:∃ b,b=(xs.length:Int) - from_:=⟨_,rfl⟩;obtain⟨n,hn⟩:∃ n,n=ys.length:=⟨_,rfl⟩;have j7:-200000≤zA∧zA≤200000:=by omega
 rw [← S];rw [← hn] at hy ⊢
 obtain⟨j,b6⟩:∃ n,n=xs.length:=⟨_,rfl⟩;have HJ:=O hJ;have t0:=hJ.blk.cell 0;clear hJ;rw [← b6] at t0 hx S
 have a8:=O b6;clear b6;have HN:=O hn;clear hn;have HS:=O hS;clear hS;have e9:=O hk;clear hk;have HB:=O hb;clear hb;have A:=O d2;clear d2;have e7:=O S.symm;clear S;obtain⟨i0,g1,i6,i7,i8⟩:=info_parts rW;obtain⟨j0,g3,g9,i4,i5⟩:=info_parts gN;go_in
 go_wp2_with fail;rw [e7.o];go_loopw [21] (fun i wr=>∃ (k:Nat) (nv iv:Value) (ext:List NV),k≤n∧i=.int .i64 k∧ext.length=k∧Hid (JS g wr tb nv iv (xs ++ ext) (J ++ gJ xs.length ((aA ys).take k)))∧Hid (aA ext=((aA ys).take k).map (lI zA))∧Hid (Below wS.heap.size wS wr)∧Hid (g≤wr.heap.size)∧Hid (aC wr kb 26 Y)) (fun i _=>n - (intOf i).toNat)
 case atStart=>exact⟨0,_,_,[],aaL _,rfl,rfl,O (by simpa [gJ] using HJ.o),O (by simp [aA]),HB,O hg,A⟩
 case round =>
  obtain⟨d,rfl⟩:∃ d:World,d=wr:=⟨_,rfl⟩;clear A;obtain⟨k,nv,iv,ext,j2,rfl,b0,L,Li,B,HG,A⟩:=hrel;have k0:=A.o.lt;by_cases b3:k < n
  ·obtain⟨b,o,rfl,C⟩:=HS.o (by rw [← HN.o];omega);obtain⟨y,l⟩:∃ y,ys[k]? = some y:=jD (by rw [← HN.o];exact b3);have c0:=(B.o.cell (p:=⟨b,o+k * 5,none⟩) C.lt).trans (C.c0 k y l);have c1:=(B.o.cell (p:=⟨b,o+k * 5+1,none⟩) C.lt).trans (C.c1 k y l);have c2:=(B.o.cell (p:=⟨b,o+k * 5+2,none⟩) C.lt).trans (C.c2 k y l);have c3:=(B.o.cell (p:=⟨b,o+k * 5+3,none⟩) C.lt).trans (C.c3 k y l);have c4:=(B.o.cell (p:=⟨b,o+k * 5+4,none⟩) C.lt).trans (C.c4 k y l);obtain⟨Ak,ck,e4,e5,r⟩:=C.kid l;rw [e4] at c3
   have tK:=O r;have c9:=O l;have e8:=O (e9.o y (aaM l));clear C l e4 r;obtain⟨a,b5⟩:∃ a,a=y.1.kids.length:=⟨_,rfl⟩;rw [← b5] at c3 e5
   have nu:=O b5;clear b5;have i1:(0:Int)≤(k:Int):=by omega
   have i2:(k:Int) < (n:Int):=by omega
   have i3:decide (k < n)=true:=aaU b3;have e1:=fun W=>run_make_row' (P:=Tryz.prog) 24 3 (.int .i64 0) 8 Tryz.underlying24 gN rfl .i64 .i64 a (by omega) (by omega) W
   rw [Ab] at e1
   go_wp2_with fail;clear e1;have E:=O ((aC.new d 50 #[.int .u8 y.1.kind,.string (aM y.1.text),.int .i64 y.1.n,.slice Ak a ck,.int .i64 y.1.at_]).alloc (.cells (iZ (List.replicate a 0)) 3));have AQ:=O (dL (W:=d.alloc (.cells #[.int .u8 y.1.kind,.string (aM y.1.text),.int .i64 y.1.n,.slice Ak a ck,.int .i64 y.1.at_] 50)) (T:=3) (cs:=iZ (List.replicate a 0)) (k:=d.heap.size+1) (by simp));have vL:=O (ah (ah (Below.refl d.heap.size d) (aaJ _) (o:=.cells #[.int .u8 y.1.kind,.string (aM y.1.text),.int .i64 y.1.n,.slice Ak a ck,.int .i64 y.1.at_] 50)) (by simp) (o:=.cells (iZ (List.replicate a 0)) 3));have Z:=O ((A.o.alloc (.cells #[.int .u8 y.1.kind,.string (aM y.1.text),.int .i64 y.1.n,.slice Ak a ck,.int .i64 y.1.at_] 50)).alloc (.cells (iZ (List.replicate a 0)) 3));go_loopw [32] (fun i wr=>∃ (f:Nat) (D:List Int),f≤a∧i=.int .i64 f∧Hid (aC wr kb 26 Y)∧Hid (Below d.heap.size d wr)∧Hid (aC wr d.heap.size 50 #[.int .u8 y.1.kind,.string (aM y.1.text),.int .i64 y.1.n,.slice Ak a ck,.int .i64 y.1.at_])∧Hid (aC wr (d.heap.size+1) 3 (iZ D))∧Hid (D=((y.1.kids.take f).map (·+zA)) ++ List.replicate (a - f) 0)) (fun i _=>a - (intOf i).toNat)
   case atStart=>exact⟨0,List.replicate a 0,aaL _,rfl,Z,vL,E,AQ,O (by simp)⟩
   case round =>
    clear vL E AQ Z;obtain⟨wq,rfl⟩:∃ wq:World,wq=wr:=⟨_,rfl⟩;obtain⟨f,D,hj,rfl,c7,jO,E,AQ,HD⟩:=hrel;have f2:=O (B.o.trans (jO.o.mono B.o.size));have d4:D.length=a:=by rw [HD.o];simp;rw [← nu.o];omega
    by_cases b2:f < a
    ·obtain⟨kq,V⟩:∃ kq,y.1.kids[f]? = some kq:=⟨_,aaD (by rw [← nu.o];exact b2)⟩;have k1:=e8.o kq (aaM V);obtain⟨bk,ok,rfl,g0,d3⟩:=tK.o.ex (by rw [← nu.o];omega);have cj:=(f2.o.cell (p:=⟨bk,ok+f,none⟩) g0).trans (d3 f kq V);have uM:=O (show y.1.kids.take (f+1)=y.1.kids.take f ++ [kq] by rw [List.take_add_one,V];rfl);clear d3 V;have z0:(0:Int)≤(f:Int):=by omega
     have z1:(f:Int) < (a:Int):=by omega
     have z2:decide (f < a)=true:=aaU b2;have d0:wq.cell? ⟨d.heap.size+1,f,none⟩=some (.int .i64 (D.getD f 0)):=by rw [AQ.o.cell f];exact nE D f (by omega)
     have df:=AQ.o.frozen f;obtain⟨dv,d5⟩:∃ v,v=D.getD f 0:=⟨_,rfl⟩;rw [← d5] at d0
     clear d5;go_wp2_with fail
     refine⟨⟨f+1,D.set f (kq+zA),by omega,by go_num,O (c7.o.far (p:=⟨d.heap.size+1,f,none⟩) (by show kb ≠ d.heap.size+1;omega) _),O (dx jO.o (by omega)),O (E.o.far (by simp) _),O (by rw [← yt];exact AQ.o.d_ f _),O ?_⟩,by simp [intOf];omega⟩
     rw [HD.o,uM.o];have g4:((y.1.kids.take f).map (·+zA)).length=f:=by simp;rw [← nu.o];omega
     have Qs:List.replicate (a - f) (0:Int)=0 :: List.replicate (a - (f+1)) 0:=by
      rw [show a - f=(a - (f+1))+1 by omega];rfl
     rw [Qs,List.set_append_right _ _ (by omega),g4,Nat.sub_self,aaB,List.map_append,List.append_assoc];rfl
    ·have z2:decide (f < a)=false:=aaV b2
     have JU:=O (show D=y.1.kids.map (·+zA) by
      rw [HD.o,aaN (by rw [← nu.o];omega),show a - f=0 by omega];simp)
     have n0:=E.o.cell 0;have n1:=E.o.cell 1;have n2:=E.o.cell 2;have n3:=E.o.cell 3;have n4:=E.o.cell 4;have nf:=E.o.frozen 3;have e2:=E.o.lt;obtain⟨xe,X⟩:∃ e,e=xs ++ ext:=⟨_,rfl⟩;obtain⟨ie,b1⟩:∃ e,e=J ++ gJ xs.length ((aA ys).take k):=⟨_,rfl⟩;have JQ:=L.o.below jO.o;rw [← X,← b1] at JQ
     have g8:xe.length=j+k:=by rw [X,aaO,b0,a8.o]
     have a7:=O X;clear X;have a3:=O b1;clear b1;have zY:=L.o.UD (b:=d.heap.size) (aaJ _);rw [← a7.o] at zY
     have G:=JQ.far_ (b:=d.heap.size) (i:=3) (u:=.slice (some ⟨d.heap.size+1,0,none⟩) a a) zY.1 zY.2.1 zY.2.2.1 zY.2.2.2;have Q:=E.o.d_ 3 (.slice (some ⟨d.heap.size+1,0,none⟩) a a);have Yu:=AQ.o.far (p:=⟨d.heap.size,3,none⟩) (by simp) (.slice (some ⟨d.heap.size+1,0,none⟩) a a);have a4:=c7.o.far (p:=⟨d.heap.size,3,none⟩) (by show kb ≠ d.heap.size;omega) (.slice (some ⟨d.heap.size+1,0,none⟩) a a);have Ql:=O (dx (i:=3) (u:=.slice (some ⟨d.heap.size+1,0,none⟩) a a) jO.o (aaJ _));have b8:=O zY;have TH:=O (L.o.UD (b:=d.heap.size+1) (by omega));clear JQ zY;obtain⟨qn,VP⟩:∃ q,q=xe.length:=⟨_,rfl⟩;obtain⟨K,b4⟩:∃ q,q=ie.length:=⟨_,rfl⟩;obtain⟨e6,f6,g5⟩:=dh G.own;obtain⟨b7,d1,g2⟩:=dh G.row;subst g5;subst g2;have g6:qn=j+k:=by rw [VP,g8]
     rw [← VP] at G
     rw [← b4] at G
     subst g6;have c8:=O VP;clear VP;have a6:=O b4;clear b4;go_upto_region 11 with (fail)
     generalize wq.setCell ⟨d.heap.size,3,none⟩ (.slice (some ⟨d.heap.size+1,0,none⟩) a a)=w6 at G Q Yu a4 Ql ⊢
     have n0:=Q.cell 0;have n1:=Q.cell 1;have n2:=Q.cell 2;have n3:=Q.cell 3;have n4:=Q.cell 4;have e2:=Q.lt;have u0:=G.blk.cell 0;have u1:=G.blk.cell 1;have uf:=G.blk.frozen 0;have g7:=G.blk.lt;have e3:¬ w6.heap.size=tb:=by omega
     have Qo:=O G;have F6:=O Q;have c6:=O Yu;have a0:=O a4;clear G Q Yu a4;have a1:=O (show w6.ownsRow g 50 5 (.slice e6 (j+k) f6) (j+k) (iO xe) from by have h9:=Qo.o.own;rw [← c8.o] at h9;exact h9)
     go_region_law ((refine step_append_lies _ (by rfl) _ _ _ (by rfl) g 50 i0 _ 5 64 Tryz.underlying23 g1 i6 i7 i8 rfl (by omega) _ (j + k) (iO xe) (by rfl) (((a1.o.alloc _)).drew)
                              ⟨w6.heap.size,0,none⟩ 1 1 (fC (⟨y.1.kind,y.1.text,y.1.n,D,y.1.at_⟩,.slice (some ⟨d.heap.size+1,0,none⟩) a a)) (by rfl) (by rfl) (World.news_of_block (cs:=#[.int .u8 y.1.kind,.string (aM y.1.text),.int .i64 y.1.n,.slice (some ⟨d.heap.size+1,0,none⟩) a a,.int .i64 y.1.at_]) (t:=50) (fr:=(0,0)) (heap_alloc_new w6 _)) (by intro u hu;simp [fC] at hu;rcases hu with rfl | rfl | rfl | rfl | rfl <;> rfl)
                              (by omega) (by simp only [maxLen];omega) (by omega) (by simp;have h9:=HG.o;have h8:=Ql.o.size;omega) (w6.heap.size+1) (by simp) ?_;intro gg m w1 H h f9 d8;have kk:=((Qo.o.blk.alloc (.cells #[.int .u8 y.1.kind,.string (aM y.1.text),.int .i64 y.1.n,.slice (some ⟨d.heap.size+1,0,none⟩) a a,.int .i64 y.1.at_] 50)).drew).grown h (fun e=>aT Qo.o.own Qo.o.blk (by decide) e.symm);have f3:=kk.cell 0;have f7:=kk.frozen 0;clear kk))
     all_goals
      obtain⟨xk,r⟩:∃ xk:NV,xk=(⟨y.1.kind,y.1.text,y.1.n,D,y.1.at_⟩,.slice (some ⟨d.heap.size+1,0,none⟩) a a):=⟨_,rfl⟩;have j1:=HG.o;have Zv:=Ql.o.size;have j8:=Qo.o.lo;have QH:=O (Below.drew (ah (Below.refl w6.heap.size w6) (aaJ _) (o:=.cells #[.int .u8 y.1.kind,.string (aM y.1.text),.int .i64 y.1.n,.slice (some ⟨d.heap.size+1,0,none⟩) a a,.int .i64 y.1.at_] 50)));have JA:=JS.add (x:=xk) (eO:=.slice (some ⟨gg,0,none⟩) (j+k+1) m) (Qo.o.below QH.o) h (by rw [← c8.o,r];exact H) (by rw [r];show World.ownsRow _ g _ 1 _ D.length _;rw [d4];exact Iw ((c6.o.alloc _).drew) d4 (by omega) e5) (by right;rw [r];exact fun e=>TH.o.2.2.1 ((Uu _ _ _ _ _).trans e.symm));have N:=(((F6.o.alloc (.cells #[.int .u8 y.1.kind,.string (aM y.1.text),.int .i64 y.1.n,.slice (some ⟨d.heap.size+1,0,none⟩) a a,.int .i64 y.1.at_] 50)).drew).grown h (fun e=>b8.o.2.1 ((Uu _ _ _ _ _).trans e.symm))).far (p:=⟨tb,0,none⟩) b8.o.1 (.slice (some ⟨gg,0,none⟩) (j+k+1) m);have a5:=dx (i:=0) (b:=tb) (u:=.slice (some ⟨gg,0,none⟩) (j+k+1) m) ((((B.o.trans (Ql.o.mono B.o.size)).trans (QH.o.mono (Nat.le_trans B.o.size Zv)))).grown h (Nat.le_trans (Nat.le_trans B.o.size Zv) QH.o.size) (fun b' a9=>by have:=(Qo.o.own.lt b' a9).1;omega)) d7;have M:=O ((((a0.o.alloc (.cells #[.int .u8 y.1.kind,.string (aM y.1.text),.int .i64 y.1.n,.slice (some ⟨d.heap.size+1,0,none⟩) a a,.int .i64 y.1.at_] 50)).drew).grown h (fun e=>aT Qo.o.own a0.o (by decide) e.symm)).far (p:=⟨tb,0,none⟩) (by show kb ≠ tb;exact d6) (.slice (some ⟨gg,0,none⟩) (j+k+1) m))
      have a2:g≤(w1.setCell ⟨tb,0,none⟩ (.slice (some ⟨gg,0,none⟩) (j+k+1) m)).heap.size:=by
       have h9:=h.size;have h8:=QH.o.size;simp [World.setCell]
       omega
      have Lj:=O (show aA (ext ++ [xk])=((aA ys).take (k+1)).map (lI zA) by
       rw [nY,Li.o,List.take_add_one,List.map_append,gP c9.o,r]
       congr 1
       simp [aA,lI,JU.o])
      clear r f9 h H f3 f7 d8 F6 c6 a1 QH
      generalize w1.setCell ⟨tb,0,none⟩ (.slice (some ⟨gg,0,none⟩) (j+k+1) m)=w7 at JA N a5 a2 M ⊢
      have R:=O JA;have i9:=O N;have Lm:=O a5;have QT:=O a2;have v0:=N.cell 0;have k2:=JA.blk.cell 0;have k3:=JA.blk.cell 1;have k4:=JA.blk.frozen 1;have j4:=JA.blk.lt;clear JA N a5 a2 u0 u1 uf n0 n1 n2 n3 n4 g7 e2 e3;have nH:=O (oM xs.length ((aA ys).take k) y.1);have uM:=O (show (aA ys).take (k+1)=(aA ys).take k ++ [y.1] by rw [List.take_add_one,gP c9.o];rfl);have Nh:=O (show ((aA ys).take k).length=k by rw [List.length_take,aD,← HN.o];omega)
      cases U:eP y.1.kind
      ·have F:=O U;clear U;go_wp2_with fail;refine (Cn y.1.kind false F.o _).mono ?_;rintro e w8⟨rfl,rfl⟩;go_wp2_with fail
       refine⟨⟨k+1,.slice (some ⟨gg,0,none⟩) (j+k+1) m,.slice b7 K d1,ext ++ [xk],by omega,by go_num,by rw [aaO,b0];rfl,O ?_,Lj,Lm,QT,M⟩,by simp [intOf];omega⟩
       have h9:=R.o;rw [a7.o,a3.o] at h9
       rw [uM.o,nH.o,F.o]
       simpa using h9
      ·have F:=O U;clear U;have j5:¬ w7.heap.size=tb:=by omega
       go_wp2_with fail;refine (Cn y.1.kind true F.o _).mono ?_;rintro e w8⟨rfl,rfl⟩;go_upto_region 13 with (fail)
       have j3:K≤20000:=by
        have h9:=uw xs.length ((aA ys).take k);rw [a6.o,a3.o,aaO];rw [Nh.o] at h9
        omega
       have Jp:=O (show w7.ownsRow g 3 1 (.slice b7 K d1) K (intCells ie) from by have h9:=R.o.row;rw [← a6.o] at h9;exact h9);have k5:IntKind.i64.wrap ((j:Int)+(k:Int))=(j:Int)+(k:Int):=IntWalk.i64_in _ (by omega)
       go_region_law ((refine step_append_lies _ (by rfl) _ _ _ (by rfl) g 3 j0 _ 1 8 Tryz.underlying24 g3 g9 i4 i5 rfl (by omega) _ K (intCells ie) (by rfl) (((Jp.o.alloc _)).drew)
                                  ⟨w7.heap.size,0,none⟩ 1 1 [.int .i64 ((j:Int)+(k:Int))] (by rfl) (by rfl) (World.news_of_block (cs:=#[.int .i64 ((j:Int)+(k:Int))]) (t:=3) (fr:=(0,0)) (heap_alloc_new w7 _)) (by intro u hu;simp at hu;subst hu;rfl)
                                  (by omega) (by simp only [maxLen];omega) (by omega) (by simp;have h9:=QT.o;omega) (w7.heap.size+1) (by simp) ?_;intro gi zm w9 I c Ol e0;have kk:=((R.o.blk.alloc (.cells #[.int .i64 ((j:Int)+(k:Int))] 3)).drew).grown c (fun e=>aT R.o.row R.o.blk (by decide) e.symm);have f4:=kk.cell 0;have f5:=kk.cell 1;have f8:=kk.frozen 1;clear kk))
       all_goals
        have F3:=O (Below.drew (ah (Below.refl w7.heap.size w7) (aaJ _) (o:=.cells #[.int .i64 ((j:Int)+(k:Int))] 3)));have j9:=QT.o;have Xy:=R.o.lo
        have JB:=O (JS.item (q:=(j:Int)+(k:Int)) (AY:=.slice (some ⟨gi,0,none⟩) (K+1) zm) (R.o.below F3.o) c (by rw [← a6.o];exact I) (by
         rcases Ol with e | e
         ·left;rw [e];rfl
         ·right;rw [e];simp [Value.ownBlock]))
        have f1:=O (dx (i:=1) (b:=tb) (u:=.slice (some ⟨gi,0,none⟩) (K+1) zm) ((Lm.o.trans (F3.o.mono Lm.o.size)).grown c (Nat.le_trans Lm.o.size F3.o.size) (fun b' a9=>by have:=(R.o.row.lt b' a9).1;omega)) d7);have f0:=O ((((M.o.alloc (.cells #[.int .i64 ((j:Int)+(k:Int))] 3)).drew).grown c (fun e=>aT R.o.row M.o (by decide) e.symm)).far (p:=⟨tb,1,none⟩) (by show kb ≠ tb;exact d6) (.slice (some ⟨gi,0,none⟩) (K+1) zm))
        have b9:g≤(w9.setCell ⟨tb,1,none⟩ (.slice (some ⟨gi,0,none⟩) (K+1) zm)).heap.size:=by
         have h9:=c.size;have h8:=F3.o.size;simp [World.setCell]
         omega
        have c5:=O b9;clear Ol c I f4 f5 f8 e0 F3 b9;go_wp2_with fail
        refine⟨⟨k+1,.slice (some ⟨gg,0,none⟩) (j+k+1) m,.slice (some ⟨gi,0,none⟩) (K+1) zm,ext ++ [xk],by omega,by go_num,by rw [aaO,b0];rfl,O ?_,Lj,f1,c5,f0⟩,by simp [intOf];omega⟩
        have h9:=JB.o;rw [a7.o,a3.o] at h9
        rw [uM.o,nH.o,F.o,Nh.o,← a8.o];rw [← a8.o] at h9
        simpa using h9
  ·have i3:decide (k < n)=false:=aaV b3;have uM:=O (show (aA ys).take k=aA ys from aaN (by rw [aD,← HN.o];omega));go_wp2_with fail;go_end0
   exact⟨rfl,B.o,A.o,nv,iv,ext,by have h9:=L.o;rwa [uM.o] at h9,by rw [Li.o,uM.o]⟩
def kS (T U:Tr):Int:=if two T U ≠ 0 then two T U else if kP (T.nodes.length+U.nodes.length) (T.items.length+U.items.length)=true then 5 else 0
theorem Sg (x:Nd):lI 0 x=x:=by
 cases x;simp [lI]
theorem SF {T U:Tr}(h:two T U=0):dN T=0∧dN U=0:=by
 unfold two at h
 split at h
 ·rename_i h1;exact absurd h h1
 ·rename_i h1;exact⟨by simpa using h1,h⟩
theorem JS.rows {g:Nat}{w:World}{tb:Nat}{nv iv:Value}{xs:List NV}{a:List Int}(h:JS g w tb nv iv xs a):RowsIn g w nv iv xs a:=⟨h.own,h.kids,h.row,h.far⟩
theorem RowsIn.up {g g':Nat}{w:World}{nv iv:Value}{xs:List NV}{a:List Int}(h:RowsIn g w nv iv xs a)(b:g'≤g):RowsIn g' w nv iv xs a:=⟨sS h.own b,fun x c=>sS (h.kids x c) b,sS h.row b,h.far⟩
theorem Qe {xs:List NV}(a:Wf (aA xs))(e:xs.length≤1000):∀ y ∈ xs,∀ k ∈ y.1.kids,-1000000≤k∧k≤1000000:=by
 intro y hy k d;obtain⟨i,c,b⟩:=List.mem_iff_getElem.1 hy;have h:=a i y.1 (gP (by rw [← b];exact aaD c)) k d;omega
theorem DT {T:Tr}(h:dN T=0):Wf T.nodes:=by
 obtain⟨_,_,b,a⟩:=iF h;exact kX a
theorem GH {T:Tr}(h:dN T=0):T.nodes.length≤800∧T.items.length≤60:=Cu (iF h).1
theorem N8 (A B A' B':Option Addr)(c d r t:Nat)(xs ys:List NV)(a b:List Int)(w:World)(Z:mq w A B xs a)(hU:mq w A' B' ys b)(hR:xO (aA xs))(hS:xO (aA ys))(hE:Env w) :
  Calls Tryz.prog 45 #[.agg #[.slice A xs.length c,.slice B a.length d],.agg #[.slice A' ys.length r,.slice B' b.length t]] w fun e w'=>Below w.heap.size w w' ∧
   ((kS ⟨aA xs, a⟩ ⟨aA ys, b⟩ ≠ 0 ∧ e = .returned (.tuple #[.agg #[.slice none 0 0, .slice none 0 0], .int .i64 (kS ⟨aA xs, a⟩ ⟨aA ys, b⟩)])) ∨
    (kS ⟨aA xs,a⟩ ⟨aA ys,b⟩=0∧∃ nv iv ext,e=.returned (.tuple #[.agg #[nv,iv],.int .i64 0])∧RowsIn w.heap.size w' nv iv ext (a ++ b.map (·+(xs.length:Int)))∧aA ext=aA xs ++ (aA ys).map (lI (xs.length:Int)))):=by
 have Bo:=O fun W (hb:Below w.heap.size w W) g hg=>Gy A B A' B' c d r t g xs ys a b W (Z.below hb) (hU.below hb) hR hS (hE.below hb) hg
 obtain⟨T,ni⟩:∃ T:Tr,T=⟨aA xs,a⟩:=⟨_,rfl⟩;obtain⟨U,Jk⟩:∃ U:Tr,U=⟨aA ys,b⟩:=⟨_,rfl⟩;have U_:=O (show T.nodes=aA xs by rw [ni]);have b1:=O (show U.nodes=aA ys by rw [Jk]);have b8:=O (show T.items=a by rw [ni]);have b9:=O (show U.items=b by rw [Jk]);have nH:=O fun h=>L9 (T:=T) (fun n N=>(hR n (by rw [ni] at N;exact N)).num) h
 have b6:=O fun h=>L9 (T:=U) (fun n N=>(hS n (by rw [Jk] at N;exact N)).num) h
 rw [← ni,← Jk] at Bo ⊢
 have HT:=O Z;have HU:=O hU;clear ni Jk Z hU hR hS hE;have a0:=O ((((aC.new w 26 #[.slice A xs.length c,.slice B a.length d]).alloc (.cells #[.slice A' ys.length r,.slice B' b.length t] 26)).alloc (.cells #[.slice none 0 0,.slice none 0 0] 26)).alloc (.cells #[.slice A xs.length c,.slice B a.length d,.slice A' ys.length r,.slice B' b.length t] 26));have a9:=O (((dL (W:=w.alloc (.cells #[.slice A xs.length c,.slice B a.length d] 26)) (T:=26) (cs:=#[.slice A' ys.length r,.slice B' b.length t]) (k:=w.heap.size+1) (by simp)).alloc (.cells #[.slice none 0 0,.slice none 0 0] 26)).alloc (.cells #[.slice A xs.length c,.slice B a.length d,.slice A' ys.length r,.slice B' b.length t] 26));have b2:=O ((dL (W:=(w.alloc (.cells #[.slice A xs.length c,.slice B a.length d] 26)).alloc (.cells #[.slice A' ys.length r,.slice B' b.length t] 26)) (T:=26) (cs:=#[.slice none 0 0,.slice none 0 0]) (k:=w.heap.size+1+1) (by simp)).alloc (.cells #[.slice A xs.length c,.slice B a.length d,.slice A' ys.length r,.slice B' b.length t] 26));have X:=O (dL (W:=((w.alloc (.cells #[.slice A xs.length c,.slice B a.length d] 26)).alloc (.cells #[.slice A' ys.length r,.slice B' b.length t] 26)).alloc (.cells #[.slice none 0 0,.slice none 0 0] 26)) (T:=26) (cs:=#[.slice A xs.length c,.slice B a.length d,.slice A' ys.length r,.slice B' b.length t]) (k:=w.heap.size+1+1+1) (by simp));have Y:=O (ah (ah (ah (ah (Below.refl w.heap.size w) (aaJ _) (o:=.cells #[.slice A xs.length c,.slice B a.length d] 26)) (by simp) (o:=.cells #[.slice A' ys.length r,.slice B' b.length t] 26)) (by simp;omega) (o:=.cells #[.slice none 0 0,.slice none 0 0] 26)) (by simp;omega) (o:=.cells #[.slice A xs.length c,.slice B a.length d,.slice A' ys.length r,.slice B' b.length t] 26));go_in
 go_wp2_with fail;refine (Bo.o _ Y.o _ X.o).mono ?_;rintro e w1⟨rfl,F⟩;have HB:=O (a0.o.below F a0.o.lt);have HK:=O (a9.o.below F a9.o.lt);have V:=O (b2.o.below F b2.o.lt);have D:=O (Y.o.trans (F.mono Y.o.size));clear F a0 a9 b2 X Y Bo;have t0:=HB.o.cell 0;have t1:=HB.o.cell 1;have u0:=HK.o.cell 0;have u1:=HK.o.cell 1;have v0:=V.o.cell 0;have v1:=V.o.cell 1;have g0:=V.o.frozen 0;have g1:=V.o.frozen 1;by_cases f:two T U=0
 case neg =>
  have HX:=O (show kS T U=two T U by unfold kS;rw [if_pos f]);have a1:=O f;obtain⟨E,c2⟩:∃ E,E=two T U:=⟨_,rfl⟩;rw [← c2] at f HX a1 ⊢
  have e1:(E != 0)=true:=by simpa using f
  clear f c2;go_wp2_with fail;have P:=(V.o.d_ 0 (.slice none 0 0)).d_ 1 (.slice none 0 0);have r0:=P.cell 0;have r1:=P.cell 1;refine bodyPost_ret (v:=.tuple #[.agg #[.slice none 0 0,.slice none 0 0],.int .i64 E]) (by simp [results,Tryz.f45,go_sem,r0,r1]) rfl ?_;exact⟨dx (dx D.o (by omega)) (by omega),.inl ⟨by rw [HX.o];exact a1.o,by rw [HX.o]⟩⟩
 obtain⟨G,H⟩:=SF f;have L:=O (GH G);have YW:=O (GH H);have c0:=O (DT G);have c1:=O (DT H);have R:=O (KP (iF G).2.1 (nH.o G) 0);have S:=O (KP (iF H).2.1 (b6.o H) xs.length);rw [U_.o,b8.o] at L R
 rw [b1.o,b9.o] at YW S
 rw [U_.o] at c0
 rw [b1.o] at c1
 rw [aD] at L YW
 have a1:=O f;have a7:=O (show kS T U=if kP (xs.length+ys.length) (a.length+b.length)=true then 5 else 0 by unfold kS;rw [if_neg (by rw [f];simp),U_.o,b1.o,b8.o,b9.o,aD,aD]);rw [f];clear f G H nH b6
 have a5:=O (show JS (w.heap.size+1+1+1) (w1.alloc (.cells #[.slice A xs.length c,.slice B a.length d,.slice A' ys.length r,.slice B' b.length t] 26)) (w.heap.size+1+1) (.slice none 0 0) (.slice none 0 0) [] [] from
  ⟨V.o.alloc _,by omega,World.ownsRow_nil _ _ _ _,(fun x hx=>by cases hx),World.ownsRow_nil _ _ _ _,(fun x hx=>by cases hx)⟩)
 have X:=O (aC.new w1 26 #[.slice A xs.length c,.slice B a.length d,.slice A' ys.length r,.slice B' b.length t]);have Y:=O (ah D.o D.o.size (o:=.cells #[.slice A xs.length c,.slice B a.length d,.slice A' ys.length r,.slice B' b.length t] 26));have c8:w.heap.size+1+1 < w1.heap.size:=V.o.lt;go_wp2_with fail
 generalize w1.alloc (.cells #[.slice A xs.length c,.slice B a.length d,.slice A' ys.length r,.slice B' b.length t] 26)=w4 at a5 X Y ⊢
 generalize w1.heap.size=gb at X c8 ⊢
 clear HB HK V D t0 t1 u0 u1 v0 v1 g0 g1;have c4:w.heap.size+1+1+1≤w4.heap.size:=Nat.le_trans (by omega) (Nat.succ_le_of_lt X.o.lt);go_loopw [21] (fun i wr=>∃ (k:Nat) (nv iv:Value) (ext:List NV) (is:List Int),k≤2∧i=.int .i64 k∧Hid (is=if k=0 then [] else if k=1 then a else a ++ b.map (·+(xs.length:Int)))∧Hid (aA ext=if k=0 then [] else if k=1 then aA xs else aA xs ++ (aA ys).map (lI (xs.length:Int)))∧Hid (JS (w.heap.size+1+1+1) wr (w.heap.size+1+1) nv iv ext is)∧Hid (aC wr gb 26 #[.slice A xs.length c,.slice B a.length d,.slice A' ys.length r,.slice B' b.length t])∧Hid (Below w.heap.size w wr)∧Hid (w.heap.size+1+1+1≤wr.heap.size)) (fun i _=>2 - (intOf i).toNat)
 case atStart=>exact⟨0,_,_,[],[],by omega,rfl,O rfl,O rfl,a5,X,Y,O c4⟩
 case round =>
  clear a5 X Y;obtain⟨wo,rfl⟩:∃ wo:World,wo=wr:=⟨_,rfl⟩;obtain⟨k,nv,iv,ext,is,hk,rfl,a4,Li,HJ,Q,D,b5⟩:=hrel;have q0:=Q.o.cell 0;have q1:=Q.o.cell 1;have q2:=Q.o.cell 2;have q3:=Q.o.cell 3;have c9:k=0∨k=1∨k=2:=by omega
  rcases c9 with rfl | rfl | rfl
  ·obtain rfl:[]=is:=a4.o.symm;have q:=O (ah (Below.refl wo.heap.size wo) (aaJ _) (o:=.cells #[.slice A xs.length c,.slice B a.length d] 26));have b0:=O (D.o.trans (q.o.mono D.o.size));have a6:=O (HJ.o.below q.o);have a2:=O (Q.o.below q.o Q.o.lt);have c5:=D.o.size;have Y3:=O (Nat.le_trans b5.o q.o.size);have l:ext.length=0:=by have h9:=congrArg List.length Li.o;simpa [aD] using h9
   go_wp2_with fail;refine (Kr (w.heap.size+1+1+1) (w.heap.size+1+1) nv iv ext [] A c xs 0 w _ a6.o HT.o.nodes b0.o (by omega) Y3.o (by have:=L.o;omega) (by have:=L.o;have:=YW.o;first | omega|(simp;done)) (by have:=L.o;have:=YW.o;omega) (by omega) (Qe c0.o (by have:=L.o;omega)) gb _ a2.o (by omega)).mono ?_;rintro e w3⟨rfl,j,C,FM,K,y,I,J⟩;have Y4:=O (show w.heap.size+1+1+1≤w3.heap.size from Nat.le_trans (by omega) (Nat.succ_le_of_lt C.lt))
   have c6:aA y=aA xs:=by
    rw [J,show ((ext.length:Int) - 0)=0 by omega,show (lI 0:Nd→Nd)=id from funext Sg,List.map_id]
   have a8:=O (show JS (w.heap.size+1+1+1) w3 (w.heap.size+1+1) FM K y a by
    have h9:=I;rw [List.length_eq_zero_iff.1 l] at h9
    rw [List.length_nil,R.o] at h9
    simpa using h9)
   have a3:=O C;have Nt:=O j;have Yt:=O c6;clear I J c6 j C l;go_wp2_with fail;exact⟨⟨1,FM,K,y,a,by omega,rfl,O rfl,Yt,a8,a3,Nt,Y4⟩,by simp [intOf]⟩
  ·obtain rfl:a=is:=a4.o.symm;have q:=O (ah (Below.refl wo.heap.size wo) (aaJ _) (o:=.cells #[.slice A' ys.length r,.slice B' b.length t] 26));have b0:=O (D.o.trans (q.o.mono D.o.size));have a6:=O (HJ.o.below q.o);have a2:=O (Q.o.below q.o Q.o.lt);have c5:=D.o.size;have Y3:=O (Nat.le_trans b5.o q.o.size);have l:ext.length=xs.length:=by have h9:=congrArg List.length Li.o;simpa [aD] using h9
   go_wp2_with fail;refine (Kr (w.heap.size+1+1+1) (w.heap.size+1+1) nv iv ext a A' r ys 0 w _ a6.o HU.o.nodes b0.o (by omega) Y3.o (by have:=L.o;omega) (by have:=L.o;have:=YW.o;first | omega|(simp;done)) (by have:=L.o;have:=YW.o;omega) (by omega) (Qe c1.o (by have:=YW.o;omega)) gb _ a2.o (by omega)).mono ?_;rintro e w3⟨rfl,j,C,FM,K,y,I,J⟩;have Y4:=O (show w.heap.size+1+1+1≤w3.heap.size from Nat.le_trans (by omega) (Nat.succ_le_of_lt C.lt))
   have a8:=O (show JS (w.heap.size+1+1+1) w3 (w.heap.size+1+1) FM K (ext ++ y) (a ++ b.map (·+(xs.length:Int))) by
    have h9:=I
    rwa [l,S.o] at h9)
   have Yt:=O (show aA (ext ++ y)=aA xs ++ (aA ys).map (lI (xs.length:Int)) by
    rw [nY,J,l,Int.sub_zero];have h8:aA ext=aA xs:=Li.o;rw [h8])
   have a3:=O C;have Nt:=O j;clear I J j C l;go_wp2_with fail;exact⟨⟨2,FM,K,ext ++ y,_,by omega,rfl,O rfl,Yt,a8,a3,Nt,Y4⟩,by simp [intOf]⟩
  ·obtain rfl:a ++ b.map (·+(xs.length:Int))=is:=a4.o.symm;have b3:aA ext=aA xs ++ (aA ys).map (lI (xs.length:Int)):=Li.o;have l:ext.length=xs.length+ys.length:=by have h9:=congrArg List.length b3;simpa [aD] using h9
   obtain⟨An,cn,rfl⟩:=dh HJ.o.own;obtain⟨Bn,dn,rfl⟩:=dh HJ.o.row;have HX:=O b3;have b4:(a ++ b.map (·+(xs.length:Int))).length=a.length+b.length:=by simp
   have Z:aC wo (w.heap.size+1+1) 26 #[.slice An (xs.length+ys.length) cn,.slice Bn (a.length+b.length) dn]:=by have h9:=HJ.o.blk;rwa [l,b4] at h9
   have rE:=O Z;have b7:=O (show RowsIn w.heap.size wo (.slice An (xs.length+ys.length) cn) (.slice Bn (a.length+b.length) dn) ext (a ++ b.map (·+(xs.length:Int))) by have h9:=HJ.o.rows.up (g':=w.heap.size) (by omega);rwa [l,b4] at h9);have v0:=Z.cell 0;have v1:=Z.cell 1;clear b3 l b4 Z q0 q1 q2 q3;obtain⟨n,N⟩:∃ n,n=xs.length+ys.length:=⟨_,rfl⟩;obtain⟨m,hm⟩:∃ m,m=a.length+b.length:=⟨_,rfl⟩;rw [← N,← hm] at rE b7 a7
   rw [← N] at v0
   rw [← hm] at v1
   clear N hm;have c5:=D.o.size;go_wp2_with fail;refine (Eb An Bn n m cn dn _).mono ?_;rintro e w3⟨rfl,j⟩;have u:=O (rE.o.below j rE.o.lt);have c7:=O (b7.o.below j);have lS:=O (D.o.trans (j.mono D.o.size));clear j v0 v1;have v0:=u.o.cell 0;have v1:=u.o.cell 1;have g0:=u.o.frozen 0;have g1:=u.o.frozen 1
   cases M:kP n m
   ·have Xn:=O (show kS T U=0 by rw [a7.o,M];rfl);clear M;go_wp2_with fail;have P:=(u.o.d_ 0 (.slice An n cn)).d_ 1 (.slice Bn m dn);have r0:=P.cell 0;have r1:=P.cell 1;refine bodyPost_ret (v:=.tuple #[.agg #[.slice An n cn,.slice Bn m dn],.int .i64 0]) (by simp [results,Tryz.f45,go_sem,r0,r1]) rfl ?_;exact⟨dx (dx lS.o (by omega)) (by omega),.inr ⟨Xn.o,_,_,ext,rfl,(c7.o.tY u.o).tY (u.o.d_ 0 _),HX.o⟩⟩
   ·have Xn:=O (show kS T U=5 by rw [a7.o,M];rfl);clear M;go_wp2_with fail;have P:=(u.o.d_ 0 (.slice none 0 0)).d_ 1 (.slice none 0 0);have r0:=P.cell 0;have r1:=P.cell 1;refine bodyPost_ret (v:=.tuple #[.agg #[.slice none 0 0,.slice none 0 0],.int .i64 5]) (by simp [results,Tryz.f45,go_sem,r0,r1]) rfl ?_;exact⟨dx (dx lS.o (by omega)) (by omega),.inl ⟨by rw [Xn.o];simp,by rw [Xn.o]⟩⟩
end Go.Proofs.YthepmkjggfijoaaGreatDoor
namespace Go.Proofs.YthepmkjggfijoaaGreatDoor
open Go.RowKit Mist
theorem Nr (ns:List Nd)(e:Nat):gX ns 0 e=ns.take e:=by
 unfold gX;rw [List.drop_zero,Nat.sub_zero]
 have:lI (-((0:Nat):Int))=id:=funext fun x=>Sg x
 rw [this,List.map_id]
theorem M7 (ns:List Nd)(F e:Nat):(gX ns F e).map (lI (F:Int))=(ns.drop F).take (e - F):=by
 unfold gX;rw [List.map_map]
 have:lI (F:Int) ∘ lI (-(F:Int))=id:=funext fun x=>by
  cases x with
  | mk a b c f d =>
   show Nd.mk a b c ((f.map (·+-(F:Int))).map (·+(F:Int))) d=_
   rw [List.map_map,show ((·+(F:Int)) ∘ (·+-(F:Int)):Int→Int)=id from funext fun k=>by show k+-(F:Int)+(F:Int)=k;omega,List.map_id];rfl
 rw [this,List.map_id]
theorem Fq {T:Tr}(F:dX T){k:Nat}(b:k≤T.items.length):dX ⟨T.nodes.take (mD T.items k),T.items.take k⟩:=by
 obtain⟨h1,h2,_⟩:=wK F.fo rfl k b
 have:=F.part h1 h2 (fun a h=>List.mem_of_mem_take h) (by rw [List.length_take];have:=F.itf;omega)
 unfold partT at this
 rw [Nr] at this
 have e:(T.items.take k).map (·+-((0:Nat):Int))=T.items.take k:=by
  rw [show ((·+-((0:Nat):Int)):Int→Int)=id from funext fun k=>by show k+-((0:Nat):Int)=k;omega,List.map_id]
 rw [e] at this
 exact this
theorem Fa {T:Tr}(F:dX T){k la:Nat}(b:T.items[k]? = some (la:Int)):dX ⟨gX T.nodes (mD T.items k) (la+1),[((la - mD T.items k:Nat):Int)]⟩:=by
 have c:=(aaE.1 b).1;obtain⟨_,_,h3⟩:=wK F.fo rfl k (by omega);obtain⟨d,f,g,i,j⟩:=h3 c;obtain rfl:la=d:=by have:=aaP (b.symm.trans f);omega
 have:=F.part g i (fun a h=>by rw [List.mem_singleton] at h;subst h;exact aaM b) (by simp)
 unfold partT at this
 have e:[(la:Int)].map (·+-((mD T.items k:Nat):Int))=[((la - mD T.items k:Nat):Int)]:=by
  show [(la:Int)+-((mD T.items k:Nat):Int)]=_
  rw [show (la:Int)+-((mD T.items k:Nat):Int)=((la - mD T.items k:Nat):Int) by omega]
 rw [e] at this
 exact this
theorem Vb {ns:List Nd}{G la:Nat}(h:Fo ns G (la+1) [(la:Int)]):∃ n,ns[la]? = some n∧Fo ns G la n.kids:=by
 obtain⟨m,b,n,e,f,c,a,d⟩:=h.inv [] _ rfl;obtain rfl:la=b:=by omega
 have:=Uj c
 subst this;exact⟨n,d,a⟩
theorem Qh {T:Tr}(F:dX T){W:World}{A B:Option Addr}(c d n m:Nat){xs:List NV}(hT:mq W A B xs T.items)(h2:aA xs=T.nodes)(t:xs.length=n)(X:T.items.length=m)(hc:n≤c)(hE:Env W){k la G:Nat}(w:T.items[k]? = some (la:Int))(hF:Fo T.nodes G (la+1) [(la:Int)])(C:la+1≤T.nodes.length) :
  Calls Tryz.prog 24 #[.agg #[.slice A n c,.slice B m d],.int .i64 (k:Int)] W fun e P=>Below W.heap.size W P∧∃ R S cc dc u,e=.returned (.tuple #[.agg #[.slice R (la+1 - G) cc,.slice S 1 dc],.int .i64 0])∧mq P R S u [((la - G:Nat):Int)]∧aA u=gX T.nodes G (la+1)∧u.length=la+1 - G:=by
 have a0:=(aaE.1 w).1;obtain⟨M,D,Q⟩:=Vb hF;have Fb:=Q.le;have h:=cut_any A B c d xs T.items (k:Int) W hT (by rw [h2];exact F.check.2) hE (by omega)
 have V:iC ⟨aA xs,T.items⟩ T.items.length (k:Int)=0:=by
  unfold iC;rw [show (⟨aA xs,T.items⟩:Tr)=T by rw [h2],if_neg (by rw [F.check.1];simp)]
  have:Mist.within (k:Int) 0 ((T.items.length:Int) - 1)=true:=by
   unfold Mist.within;rw [aaU (by omega),aaU (by omega)];rfl
  rw [this];rfl
 rw [t,X] at h
 rw [X] at V
 refine h.mono ?_;rintro e P ⟨hb,⟨E,_⟩ | ⟨_,q,L,l,hq,I,_,j,g,tb,nv,iv,f,rfl,hg,a,Y⟩⟩
 ·exact absurd V E
 obtain rfl:k=q:=by omega
 obtain rfl:la=L:=by have:=aaP (w.symm.trans I);omega
 obtain⟨_,J,Z,a3⟩:=iF F.check.1;have K:(aA xs).length=n:=by rw [aD,t]
 have H:T.nodes.length=n:=by rw [← h2,K]
 obtain⟨N,m1,b,a1,a2,r⟩:=j.2 la (by omega);rw [h2] at b r
 obtain rfl:M=N:=aaP (D.symm.trans b);obtain rfl:=Q.uniq m1 r;have e1:la+1 - (l.getD la 0).toNat=G:=by omega
 have e2:(l.getD la 0).toNat=la+1 - G:=by omega
 rw [e1,e2] at Y a
 have i:=Nw (T:=T) (sz:=l) (by rw [h2,← H] at j;exact j) J (L9 (fun n t=>(F.check.2 n t).num) F.check.1) (F:=G) (s:=la+1 - G) w (by omega) (by omega) (by omega)
 have e3:gJ 0 (aA ((xs.drop G).take (la+1 - G)))=[((la - G:Nat):Int)]:=by
  rw [Gm,h2,i,show (la:Int) - (G:Int)=((la - G:Nat):Int) by omega]
 rw [e3] at a
 have v:aA f=gX T.nodes G (la+1):=by rw [Y,Gm,h2];rfl
 have U:f.length=la+1 - G:=by rw [← aD,v,uI C]
 obtain⟨Ap,cp,rfl⟩:=dh a.own;obtain⟨Bp,dp,rfl⟩:=dh a.row;have y:∀ x ∈ aA xs,x.kids.length≤1000000:=by rw [h2];exact F.good.kids
 have ht:=a.UH (Ih (by rw [v,h2];rfl) y)
 refine⟨hb,Ap,Bp,cp,dp,f,by rw [U];rfl,ht,v,U⟩
theorem MS {T:Tr}(F:dX T){W:World}{A B A' B':Option Addr}(c d E H:Nat){xs ys:List NV}{k la G:Nat}(q:T.items[k]? = some (la:Int))(hG:mD T.items k=G)(hT:mq W A B xs (T.items.take k))(hU:mq W A' B' ys [((la - G:Nat):Int)])(h1:aA xs=T.nodes.take G)(h2:aA ys=gX T.nodes G (la+1))(Z:Env W) :
  Calls Tryz.prog 45 #[.agg #[.slice A G c,.slice B k d],.agg #[.slice A' (la+1 - G) E,.slice B' 1 H]] W fun e D=>Below W.heap.size W D∧∃ g m r t N,e=.returned (.tuple #[.agg #[.slice g (la+1) r,.slice m (k+1) t],.int .i64 0])∧mq D g m N (T.items.take (k+1))∧aA N=T.nodes.take (la+1):=by
 have w:=(aaE.1 q).1;obtain⟨_,_,h3⟩:=wK F.fo rfl k (by omega);obtain⟨C,V,g2,X,Y⟩:=h3 w;obtain rfl:la=C:=by have:=aaP (q.symm.trans V);omega
 have f:=Fq F (k:=k) (by omega);have b:=Fa F q;rw [hG] at f b Y
 have I:=F.few;have J:=F.itf;have L:xs.length=G:=by rw [← aD,h1,List.length_take];omega
 have M:ys.length=la+1 - G:=by rw [← aD,h2,uI X]
 have K:(T.items.take k).length=k:=by rw [List.length_take];omega
 have h:=N8 A B A' B' c d E H xs ys (T.items.take k) [((la - G:Nat):Int)] W hT hU (by rw [h1];exact f.check.2) (by rw [h2];exact b.check.2) Z
 have hj:kS ⟨aA xs,T.items.take k⟩ ⟨aA ys,[((la - G:Nat):Int)]⟩=0:=by
  have P:two ⟨aA xs,T.items.take k⟩ ⟨aA ys,[((la - G:Nat):Int)]⟩=0:=by
   unfold two;rw [h1,h2,f.check.1,b.check.1];rfl
  unfold kS;rw [if_neg (by rw [P];simp)]
  have Q:kP ((aA xs).length+(aA ys).length) ((T.items.take k).length+[((la - G:Nat):Int)].length)=false:=by
   rw [aD,aD,L,M,K];unfold kP;rw [aaV (by omega),aaV (by show ¬ 60 < k+1;omega)];rfl
  exact if_neg (by rw [show kP _ _=false from Q];simp)
 rw [L,M,K] at h
 refine h.mono ?_;rintro e D ⟨hb,⟨y,_⟩ | ⟨_,nv,iv,a,rfl,n,v⟩⟩
 ·exact absurd hj y
 have R:T.items.take k ++ [((la - G:Nat):Int)].map (·+((G:Nat):Int))=T.items.take (k+1):=by
  rw [List.take_add_one,q]
  show _ ++ [((la - G:Nat):Int)+(G:Int)]=_ ++ [(la:Int)]
  rw [show ((la - G:Nat):Int)+(G:Int)=(la:Int) by omega]
 have u:aA a=T.nodes.take (la+1):=by
  rw [v,h1,h2,M7]
  have:=List.take_add (l:=T.nodes) (i:=G) (j:=la+1 - G)
  rw [show G+(la+1 - G)=la+1 by omega] at this
  exact this.symm
 rw [R] at n
 have S:a.length=la+1:=by rw [← aD,u,List.length_take];omega
 have U:(T.items.take (k+1)).length=k+1:=by rw [List.length_take];omega
 obtain⟨g,r,rfl⟩:=dh n.own;obtain⟨m,t,rfl⟩:=dh n.row
 refine⟨hb,g,m,r,t,a,by rw [S,U],n.UH ?_,u⟩
 intro x hx;refine F.good.kids x.1 ?_
 have:x.1 ∈ aA a:=List.mem_map.2 ⟨x,hx,rfl⟩
 rw [u] at this
 exact List.mem_of_mem_take this
end Go.Proofs.YthepmkjggfijoaaGreatDoor
