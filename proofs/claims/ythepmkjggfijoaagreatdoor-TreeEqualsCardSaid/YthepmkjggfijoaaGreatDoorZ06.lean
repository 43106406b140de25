/-
  A part of the proof.
-/
import Derived.Test.YthepmkjggfijoaaGreatDoorSA
import Derived.Deep.RegionLaw
import Derived.Test.YthepmkjggfijoaaGreatDoorS22
import Derived.Test.YthepmkjggfijoaaGreatDoorS21
import Derived.Test.YthepmkjggfijoaaGreatDoorS08
import Derived.Test.YthepmkjggfijoaaGreatDoorZ05
set_option linter.all false
set_option maxRecDepth 100000
set_option maxHeartbeats 4000000
namespace Go.Proofs.YthepmkjggfijoaaGreatDoor
open Go.RowKit Mist
attribute [local go_sem] aj aH aS aB ak
theorem Kr (g tb:Nat)(nv iv:Value)(xs:List NV)(its:List Int)(Ai:Option Addr)(ci:Nat)(ys:List NV)(from_:Int)(X w:World)(hJ:JS g w tb nv iv xs its)(hS:0 < ys.length→∃ b o,Ai=some ⟨b,o,none⟩∧oZ X b o ys)(hb:Below X.heap.size X w)(d3:X.heap.size≤tb)(hg:g≤w.heap.size)
  (hx:xs.length≤10000) (hi:its.length≤10000) (hy:ys.length≤10000) (hf:-100000≤from_∧from_≤100000) (hk:∀ y ∈ ys,∀ k ∈ y.1.kids,-1000000≤k∧k≤1000000) (kb:Nat) (oG:Array Value) (vI:aC w kb 26 oG) (d2:kb ≠ tb) :
  Calls Tryz.prog 67 #[.pointer (some ⟨tb,0,none⟩),.slice Ai ys.length ci,.int .i64 from_] w fun e w'=>e=.returned (.tuple #[])∧Below X.heap.size X w'∧aC w' kb 26 oG∧∃ eO AY ext,JS g w' tb eO AY (xs ++ ext) (its ++ gJ xs.length (aA ys))∧aA ext=(aA ys).map (lI ((xs.length:Int) - from_)):=by
 obtain⟨An,cn,rfl⟩:=dh hJ.own;obtain⟨Av,cv,rfl⟩:=dh hJ.row;obtain⟨Y,L⟩:∃ b,b=(xs.length:Int) - from_:=⟨_,rfl⟩;obtain⟨n,hn⟩:∃ n,n=ys.length:=⟨_,rfl⟩;have j1:-200000≤Y∧Y≤200000:=by omega
 rw [← L];rw [← hn] at hy ⊢
 obtain⟨j,b3⟩:∃ n,n=xs.length:=⟨_,rfl⟩;have HJ:=O hJ;have t0:=hJ.blk.cell 0;clear hJ;rw [← b3] at t0 hx L
 have a5:=O b3;clear b3;have HN:=O hn;clear hn;have HS:=O hS;clear hS;have e5:=O hk;clear hk;have HB:=O hb;clear hb;have gZ:=O vI;clear vI;have e3:=O L.symm;clear L;obtain⟨i0,f6,g7,g8,g9⟩:=info_parts rW;obtain⟨j0,f8,g4,g5,g6⟩:=info_parts gN;go_in
 go_wp2_with fail;rw [e3.o];go_loopw [21] (fun i wr=>∃ (k:Nat) (nv iv:Value) (ext:List NV),k≤n∧i=.int .i64 k∧ext.length=k∧Hid (JS g wr tb nv iv (xs ++ ext) (its ++ gJ xs.length ((aA ys).take k)))∧Hid (aA ext=((aA ys).take k).map (lI Y))∧Hid (Below X.heap.size X wr)∧Hid (g≤wr.heap.size)∧Hid (aC wr kb 26 oG)) (fun i _=>n - (intOf i).toNat)
 case atStart=>exact⟨0,_,_,[],aaL _,rfl,rfl,O (by simpa [gJ] using HJ.o),O (by simp [aA]),HB,O hg,gZ⟩
 case round =>
  obtain⟨d,rfl⟩:∃ d:World,d=wr:=⟨_,rfl⟩;clear gZ;obtain⟨k,nv,iv,ext,i6,rfl,a7,mG,Li,A,HG,gZ⟩:=hrel;have j4:=gZ.o.lt;by_cases b0:k < n
  ·obtain⟨b,o,rfl,B⟩:=HS.o (by rw [← HN.o];omega);obtain⟨y,l⟩:∃ y,ys[k]? = some y:=jD (by rw [← HN.o];exact b0);have c0:=(A.o.cell (p:=⟨b,o+k * 5,none⟩) B.lt).trans (B.c0 k y l);have c1:=(A.o.cell (p:=⟨b,o+k * 5+1,none⟩) B.lt).trans (B.c1 k y l);have c2:=(A.o.cell (p:=⟨b,o+k * 5+2,none⟩) B.lt).trans (B.c2 k y l);have c3:=(A.o.cell (p:=⟨b,o+k * 5+3,none⟩) B.lt).trans (B.c3 k y l);have c4:=(A.o.cell (p:=⟨b,o+k * 5+4,none⟩) B.lt).trans (B.c4 k y l);obtain⟨Ak,ck,e0,e1,r⟩:=B.kid l;rw [e0] at c3
   have tK:=O r;have c6:=O l;have e4:=O (e5.o y (aaM l));clear B l e0 r;obtain⟨a,b2⟩:∃ a,a=y.1.kids.length:=⟨_,rfl⟩;rw [← b2] at c3 e1
   have nu:=O b2;clear b2;have i1:(0:Int)≤(k:Int):=by omega
   have i2:(k:Int) < (n:Int):=by omega
   have i3:decide (k < n)=true:=aaU b0;have d6:=fun W=>run_make_row' (P:=Tryz.prog) 24 3 (.int .i64 0) 8 Tryz.underlying24 gN rfl .i64 .i64 a (by omega) (by omega) W
   rw [Ab] at d6
   go_wp2_with fail;clear d6;have C:=O ((aC.new d 50 #[.int .u8 y.1.kind,.string (aM y.1.text),.int .i64 y.1.n,.slice Ak a ck,.int .i64 y.1.at_]).alloc (.cells (iZ (List.replicate a 0)) 3));have Z:=O (dL (W:=d.alloc (.cells #[.int .u8 y.1.kind,.string (aM y.1.text),.int .i64 y.1.n,.slice Ak a ck,.int .i64 y.1.at_] 50)) (T:=3) (cs:=iZ (List.replicate a 0)) (k:=d.heap.size+1) (by simp));have vL:=O (ah (ah (Below.refl d.heap.size d) (aaJ _) (o:=.cells #[.int .u8 y.1.kind,.string (aM y.1.text),.int .i64 y.1.n,.slice Ak a ck,.int .i64 y.1.at_] 50)) (by simp) (o:=.cells (iZ (List.replicate a 0)) 3));have jv:=O ((gZ.o.alloc (.cells #[.int .u8 y.1.kind,.string (aM y.1.text),.int .i64 y.1.n,.slice Ak a ck,.int .i64 y.1.at_] 50)).alloc (.cells (iZ (List.replicate a 0)) 3));go_loopw [32] (fun i wr=>∃ (f:Nat) (D:List Int),f≤a∧i=.int .i64 f∧Hid (aC wr kb 26 oG)∧Hid (Below d.heap.size d wr)∧Hid (aC wr d.heap.size 50 #[.int .u8 y.1.kind,.string (aM y.1.text),.int .i64 y.1.n,.slice Ak a ck,.int .i64 y.1.at_])∧Hid (aC wr (d.heap.size+1) 3 (iZ D))∧Hid (D=((y.1.kids.take f).map (·+Y)) ++ List.replicate (a - f) 0)) (fun i _=>a - (intOf i).toNat)
   case atStart=>exact⟨0,List.replicate a 0,aaL _,rfl,jv,vL,C,Z,O (by simp)⟩
   case round =>
    clear vL C Z jv;obtain⟨wq,rfl⟩:∃ wq:World,wq=wr:=⟨_,rfl⟩;obtain⟨f,D,hj,rfl,b9,jO,C,Z,HD⟩:=hrel;have e7:=O (A.o.trans (jO.o.mono A.o.size));have c9:D.length=a:=by rw [HD.o];simp;rw [← nu.o];omega
    by_cases a9:f < a
    ·obtain⟨kq,N⟩:∃ kq,y.1.kids[f]? = some kq:=⟨_,aaD (by rw [← nu.o];exact a9)⟩;have j5:=e4.o kq (aaM N);obtain⟨bk,ok,rfl,f5,c8⟩:=tK.o.ex (by rw [← nu.o];omega);have cj:=(e7.o.cell (p:=⟨bk,ok+f,none⟩) f5).trans (c8 f kq N);have uM:=O (show y.1.kids.take (f+1)=y.1.kids.take f ++ [kq] by rw [List.take_add_one,N];rfl);clear c8 N;have z0:(0:Int)≤(f:Int):=by omega
     have z1:(f:Int) < (a:Int):=by omega
     have z2:decide (f < a)=true:=aaU a9;have d0:wq.cell? ⟨d.heap.size+1,f,none⟩=some (.int .i64 (D.getD f 0)):=by rw [Z.o.cell f];exact nE D f (by omega)
     have df:=Z.o.frozen f;obtain⟨dv,d1⟩:∃ v,v=D.getD f 0:=⟨_,rfl⟩;rw [← d1] at d0
     clear d1;go_wp2_with fail
     refine⟨⟨f+1,D.set f (kq+Y),by omega,by go_num,O (b9.o.far (p:=⟨d.heap.size+1,f,none⟩) (by show kb ≠ d.heap.size+1;omega) _),O (dx jO.o (by omega)),O (C.o.far (by simp) _),O (by rw [← yt];exact Z.o.d_ f _),O ?_⟩,by simp [intOf];omega⟩
     rw [HD.o,uM.o];have f9:((y.1.kids.take f).map (·+Y)).length=f:=by simp;rw [← nu.o];omega
     have Qs:List.replicate (a - f) (0:Int)=0 :: List.replicate (a - (f+1)) 0:=by
      rw [show a - f=(a - (f+1))+1 by omega];rfl
     rw [Qs,List.set_append_right _ _ (by omega),f9,Nat.sub_self,aaB,List.map_append,List.append_assoc];rfl
    ·have z2:decide (f < a)=false:=aaV a9
     have JU:=O (show D=y.1.kids.map (·+Y) by
      rw [HD.o,aaN (by rw [← nu.o];omega),show a - f=0 by omega];simp)
     have n0:=C.o.cell 0;have n1:=C.o.cell 1;have n2:=C.o.cell 2;have n3:=C.o.cell 3;have n4:=C.o.cell 4;have nf:=C.o.frozen 3;have d7:=C.o.lt;obtain⟨xe,Q⟩:∃ e,e=xs ++ ext:=⟨_,rfl⟩;obtain⟨ie,a8⟩:∃ e,e=its ++ gJ xs.length ((aA ys).take k):=⟨_,rfl⟩;have JQ:=mG.o.below jO.o;rw [← Q,← a8] at JQ
     have g3:xe.length=j+k:=by rw [Q,aaO,a7,a5.o]
     have a4:=O Q;clear Q;have a1:=O a8;clear a8;have zY:=mG.o.UD (b:=d.heap.size) (aaJ _);rw [← a4.o] at zY
     have F:=JQ.far_ (b:=d.heap.size) (i:=3) (u:=.slice (some ⟨d.heap.size+1,0,none⟩) a a) zY.1 zY.2.1 zY.2.2.1 zY.2.2.2;have J:=C.o.d_ 3 (.slice (some ⟨d.heap.size+1,0,none⟩) a a);have Yu:=Z.o.far (p:=⟨d.heap.size,3,none⟩) (by simp) (.slice (some ⟨d.heap.size+1,0,none⟩) a a);have jy:=b9.o.far (p:=⟨d.heap.size,3,none⟩) (by show kb ≠ d.heap.size;omega) (.slice (some ⟨d.heap.size+1,0,none⟩) a a);have Ql:=O (dx (i:=3) (u:=.slice (some ⟨d.heap.size+1,0,none⟩) a a) jO.o (aaJ _));have b5:=O zY;have TH:=O (mG.o.UD (b:=d.heap.size+1) (by omega));clear JQ zY;obtain⟨qn,VP⟩:∃ q,q=xe.length:=⟨_,rfl⟩;obtain⟨I,b1⟩:∃ q,q=ie.length:=⟨_,rfl⟩;obtain⟨e2,f1,g0⟩:=dh F.own;obtain⟨b4,c7,f7⟩:=dh F.row;subst g0;subst f7;have g1:qn=j+k:=by rw [VP,g3]
     rw [← VP] at F
     rw [← b1] at F
     subst g1;have c5:=O VP;clear VP;have a3:=O b1;clear b1;go_upto_region 11 with (fail)
     generalize wq.setCell ⟨d.heap.size,3,none⟩ (.slice (some ⟨d.heap.size+1,0,none⟩) a a)=w6 at F J Yu jy Ql ⊢
     have n0:=J.cell 0;have n1:=J.cell 1;have n2:=J.cell 2;have n3:=J.cell 3;have n4:=J.cell 4;have d7:=J.lt;have u0:=F.blk.cell 0;have u1:=F.blk.cell 1;have uf:=F.blk.frozen 0;have g2:=F.blk.lt;have d8:¬ w6.heap.size=tb:=by omega
     have S:=O F;have F6:=O J;have b8:=O Yu;have jA:=O jy;clear F J Yu jy;have R:=O (show w6.ownsRow g 50 5 (.slice e2 (j+k) f1) (j+k) (iO xe) from by have h9:=S.o.own;rw [← c5.o] at h9;exact h9)
     go_region_law ((refine step_append_lies _ (by rfl) _ _ _ (by rfl) g 50 i0 _ 5 64 Tryz.underlying23 f6 g7 g8 g9 rfl (by omega) _ (j + k) (iO xe) (by rfl) (((R.o.alloc _)).drew)
                              ⟨w6.heap.size,0,none⟩ 1 1 (fC (⟨y.1.kind,y.1.text,y.1.n,D,y.1.at_⟩,.slice (some ⟨d.heap.size+1,0,none⟩) a a)) (by rfl) (by rfl) (World.news_of_block (cs:=#[.int .u8 y.1.kind,.string (aM y.1.text),.int .i64 y.1.n,.slice (some ⟨d.heap.size+1,0,none⟩) a a,.int .i64 y.1.at_]) (t:=50) (fr:=(0,0)) (heap_alloc_new w6 _)) (by intro u hu;simp [fC] at hu;rcases hu with rfl | rfl | rfl | rfl | rfl <;> rfl)
                              (by omega) (by simp only [maxLen];omega) (by omega) (by simp;have h9:=HG.o;have h8:=Ql.o.size;omega) (w6.heap.size+1) (by simp) ?_;intro U m w1 G h f4 d4;have V:=((S.o.blk.alloc (.cells #[.int .u8 y.1.kind,.string (aM y.1.text),.int .i64 y.1.n,.slice (some ⟨d.heap.size+1,0,none⟩) a a,.int .i64 y.1.at_] 50)).drew).grown h (fun e=>aT S.o.own S.o.blk (by decide) e.symm);have e8:=V.cell 0;have f2:=V.frozen 0;clear V))
     all_goals
      obtain⟨xk,r⟩:∃ xk:NV,xk=(⟨y.1.kind,y.1.text,y.1.n,D,y.1.at_⟩,.slice (some ⟨d.heap.size+1,0,none⟩) a a):=⟨_,rfl⟩;have i5:=HG.o;have Zv:=Ql.o.size;have j2:=S.o.lo;have QH:=O (Below.drew (ah (Below.refl w6.heap.size w6) (aaJ _) (o:=.cells #[.int .u8 y.1.kind,.string (aM y.1.text),.int .i64 y.1.n,.slice (some ⟨d.heap.size+1,0,none⟩) a a,.int .i64 y.1.at_] 50)));have JA:=JS.add (x:=xk) (eO:=.slice (some ⟨U,0,none⟩) (j+k+1) m) (S.o.below QH.o) h (by rw [← c5.o,r];exact G) (by rw [r];show World.ownsRow _ g _ 1 _ D.length _;rw [c9];exact Iw ((b8.o.alloc _).drew) c9 (by omega) e1) (by right;rw [r];exact fun e=>TH.o.2.2.1 ((Uu _ _ _ _ _).trans e.symm));have mM:=(((F6.o.alloc (.cells #[.int .u8 y.1.kind,.string (aM y.1.text),.int .i64 y.1.n,.slice (some ⟨d.heap.size+1,0,none⟩) a a,.int .i64 y.1.at_] 50)).drew).grown h (fun e=>b5.o.2.1 ((Uu _ _ _ _ _).trans e.symm))).far (p:=⟨tb,0,none⟩) b5.o.1 (.slice (some ⟨U,0,none⟩) (j+k+1) m);have a2:=dx (i:=0) (b:=tb) (u:=.slice (some ⟨U,0,none⟩) (j+k+1) m) ((((A.o.trans (Ql.o.mono A.o.size)).trans (QH.o.mono (Nat.le_trans A.o.size Zv)))).grown h (Nat.le_trans (Nat.le_trans A.o.size Zv) QH.o.size) (fun b' a6=>by have:=(S.o.own.lt b' a6).1;omega)) d3;have mK:=O ((((jA.o.alloc (.cells #[.int .u8 y.1.kind,.string (aM y.1.text),.int .i64 y.1.n,.slice (some ⟨d.heap.size+1,0,none⟩) a a,.int .i64 y.1.at_] 50)).drew).grown h (fun e=>aT S.o.own jA.o (by decide) e.symm)).far (p:=⟨tb,0,none⟩) (by show kb ≠ tb;exact d2) (.slice (some ⟨U,0,none⟩) (j+k+1) m))
      have a0:g≤(w1.setCell ⟨tb,0,none⟩ (.slice (some ⟨U,0,none⟩) (j+k+1) m)).heap.size:=by
       have h9:=h.size;have h8:=QH.o.size;simp [World.setCell]
       omega
      have Lj:=O (show aA (ext ++ [xk])=((aA ys).take (k+1)).map (lI Y) by
       rw [nY,Li.o,List.take_add_one,List.map_append,gP c6.o,r]
       congr 1
       simp [aA,lI,JU.o])
      clear r f4 h G e8 f2 d4 F6 b8 R QH
      generalize w1.setCell ⟨tb,0,none⟩ (.slice (some ⟨U,0,none⟩) (j+k+1) m)=w7 at JA mM a2 a0 mK ⊢
      have K:=O JA;have i4:=O mM;have Lm:=O a2;have QT:=O a0;have v0:=mM.cell 0;have j7:=JA.blk.cell 0;have j8:=JA.blk.cell 1;have j9:=JA.blk.frozen 1;have i8:=JA.blk.lt;clear JA mM a2 a0 u0 u1 uf n0 n1 n2 n3 n4 g2 d7 d8;have nH:=O (oM xs.length ((aA ys).take k) y.1);have uM:=O (show (aA ys).take (k+1)=(aA ys).take k ++ [y.1] by rw [List.take_add_one,gP c6.o];rfl);have Nh:=O (show ((aA ys).take k).length=k by rw [List.length_take,aD,← HN.o];omega)
      cases M:eP y.1.kind
      ·have E:=O M;clear M;go_wp2_with fail;refine (Cn y.1.kind false E.o _).mono ?_;rintro e w8⟨rfl,rfl⟩;go_wp2_with fail
       refine⟨⟨k+1,.slice (some ⟨U,0,none⟩) (j+k+1) m,.slice b4 I c7,ext ++ [xk],by omega,by go_num,by rw [aaO,a7];rfl,O ?_,Lj,Lm,QT,mK⟩,by simp [intOf];omega⟩
       have h9:=K.o;rw [a4.o,a1.o] at h9
       rw [uM.o,nH.o,E.o]
       simpa using h9
      ·have E:=O M;clear M;have i9:¬ w7.heap.size=tb:=by omega
       go_wp2_with fail;refine (Cn y.1.kind true E.o _).mono ?_;rintro e w8⟨rfl,rfl⟩;go_upto_region 13 with (fail)
       have i7:I≤20000:=by
        have h9:=uw xs.length ((aA ys).take k);rw [a3.o,a1.o,aaO];rw [Nh.o] at h9
        omega
       have Jp:=O (show w7.ownsRow g 3 1 (.slice b4 I c7) I (intCells ie) from by have h9:=K.o.row;rw [← a3.o] at h9;exact h9);have k0:IntKind.i64.wrap ((j:Int)+(k:Int))=(j:Int)+(k:Int):=IntWalk.i64_in _ (by omega)
       go_region_law ((refine step_append_lies _ (by rfl) _ _ _ (by rfl) g 3 j0 _ 1 8 Tryz.underlying24 f8 g4 g5 g6 rfl (by omega) _ I (intCells ie) (by rfl) (((Jp.o.alloc _)).drew)
                                  ⟨w7.heap.size,0,none⟩ 1 1 [.int .i64 ((j:Int)+(k:Int))] (by rfl) (by rfl) (World.news_of_block (cs:=#[.int .i64 ((j:Int)+(k:Int))]) (t:=3) (fr:=(0,0)) (heap_alloc_new w7 _)) (by intro u hu;simp at hu;subst hu;rfl)
                                  (by omega) (by simp only [maxLen];omega) (by omega) (by simp;have h9:=QT.o;omega) (w7.heap.size+1) (by simp) ?_;intro gi zm w9 H c Ol d5;have V:=((K.o.blk.alloc (.cells #[.int .i64 ((j:Int)+(k:Int))] 3)).drew).grown c (fun e=>aT K.o.row K.o.blk (by decide) e.symm);have e9:=V.cell 0;have f0:=V.cell 1;have f3:=V.frozen 1;clear V))
       all_goals
        have F3:=O (Below.drew (ah (Below.refl w7.heap.size w7) (aaJ _) (o:=.cells #[.int .i64 ((j:Int)+(k:Int))] 3)));have j3:=QT.o;have Xy:=K.o.lo
        have JB:=O (JS.item (q:=(j:Int)+(k:Int)) (AY:=.slice (some ⟨gi,0,none⟩) (I+1) zm) (K.o.below F3.o) c (by rw [← a3.o];exact H) (by
         rcases Ol with e | e
         ·left;rw [e];rfl
         ·right;rw [e];simp [Value.ownBlock]))
        have e6:=O (dx (i:=1) (b:=tb) (u:=.slice (some ⟨gi,0,none⟩) (I+1) zm) ((Lm.o.trans (F3.o.mono Lm.o.size)).grown c (Nat.le_trans Lm.o.size F3.o.size) (fun b' a6=>by have:=(K.o.row.lt b' a6).1;omega)) d3);have wG:=O ((((mK.o.alloc (.cells #[.int .i64 ((j:Int)+(k:Int))] 3)).drew).grown c (fun e=>aT K.o.row mK.o (by decide) e.symm)).far (p:=⟨tb,1,none⟩) (by show kb ≠ tb;exact d2) (.slice (some ⟨gi,0,none⟩) (I+1) zm))
        have b6:g≤(w9.setCell ⟨tb,1,none⟩ (.slice (some ⟨gi,0,none⟩) (I+1) zm)).heap.size:=by
         have h9:=c.size;have h8:=F3.o.size;simp [World.setCell]
         omega
        have b7:=O b6;clear Ol c H e9 f0 f3 d5 F3 b6;go_wp2_with fail
        refine⟨⟨k+1,.slice (some ⟨U,0,none⟩) (j+k+1) m,.slice (some ⟨gi,0,none⟩) (I+1) zm,ext ++ [xk],by omega,by go_num,by rw [aaO,a7];rfl,O ?_,Lj,e6,b7,wG⟩,by simp [intOf];omega⟩
        have h9:=JB.o;rw [a4.o,a1.o] at h9
        rw [uM.o,nH.o,E.o,Nh.o,← a5.o];rw [← a5.o] at h9
        simpa using h9
  ·have i3:decide (k < n)=false:=aaV b0;have uM:=O (show (aA ys).take k=aA ys from aaN (by rw [aD,← HN.o];omega));go_wp2_with fail;go_end0
   exact⟨rfl,A.o,gZ.o,nv,iv,ext,by have h9:=mG.o;rwa [uM.o] at h9,by rw [Li.o,uM.o]⟩
def kS (T U:Tr):Int:=if two T U ≠ 0 then two T U else if kP (T.nodes.length+U.nodes.length) (T.items.length+U.items.length)=true then 5 else 0
theorem Sg (x:Nd):lI 0 x=x:=by
 cases x;simp [lI]
theorem bV {T U:Tr}(h:two T U=0):dN T=0∧dN U=0:=by
 unfold two at h
 split at h
 ·rename_i h1;exact absurd h h1
 ·rename_i h1;exact⟨by simpa using h1,h⟩
theorem JS.rows {g:Nat}{w:World}{tb:Nat}{nv iv:Value}{xs:List NV}{its:List Int}(h:JS g w tb nv iv xs its):RowsIn g w nv iv xs its:=⟨h.own,h.kids,h.row,h.far⟩
theorem RowsIn.up {g g':Nat}{w:World}{nv iv:Value}{xs:List NV}{its:List Int}(h:RowsIn g w nv iv xs its)(a:g'≤g):RowsIn g' w nv iv xs its:=⟨sS h.own a,fun x b=>sS (h.kids x b) a,sS h.row a,h.far⟩
theorem Qe {xs:List NV}(a:Wf (aA xs))(e:xs.length≤1000):∀ y ∈ xs,∀ k ∈ y.1.kids,-1000000≤k∧k≤1000000:=by
 intro y hy k d;obtain⟨i,c,b⟩:=List.mem_iff_getElem.1 hy;have h:=a i y.1 (gP (by rw [← b];exact aaD c)) k d;omega
theorem DT {T:Tr}(h:dN T=0):Wf T.nodes:=by
 obtain⟨_,_,b,a⟩:=iF h;exact kX a
theorem GH {T:Tr}(h:dN T=0):T.nodes.length≤800∧T.items.length≤60:=Cu (iF h).1
theorem bL (A B A' B':Option Addr)(c d l q:Nat)(xs ys:List NV)(its iB:List Int)(w:World)(N:mq w A B xs its)(hU:mq w A' B' ys iB)(hR:xO (aA xs))(hS:xO (aA ys))(hE:Env w) :
  Calls Tryz.prog 45 #[.agg #[.slice A xs.length c,.slice B its.length d],.agg #[.slice A' ys.length l,.slice B' iB.length q]] w fun e w'=>Below w.heap.size w w' ∧
   ((kS ⟨aA xs, its⟩ ⟨aA ys, iB⟩ ≠ 0 ∧ e = .returned (.tuple #[.agg #[.slice none 0 0, .slice none 0 0], .int .i64 (kS ⟨aA xs, its⟩ ⟨aA ys, iB⟩)])) ∨
    (kS ⟨aA xs,its⟩ ⟨aA ys,iB⟩=0∧∃ nv iv ext,e=.returned (.tuple #[.agg #[nv,iv],.int .i64 0])∧RowsIn w.heap.size w' nv iv ext (its ++ iB.map (·+(xs.length:Int)))∧aA ext=aA xs ++ (aA ys).map (lI (xs.length:Int)))):=by
 have Bo:=O fun W (hb:Below w.heap.size w W) g hg=>Gy A B A' B' c d l q g xs ys its iB W (N.below hb) (hU.below hb) hR hS (hE.below hb) hg
 obtain⟨T,ni⟩:∃ T:Tr,T=⟨aA xs,its⟩:=⟨_,rfl⟩;obtain⟨U,Jk⟩:∃ U:Tr,U=⟨aA ys,iB⟩:=⟨_,rfl⟩;have U_:=O (show T.nodes=aA xs by rw [ni]);have Y:=O (show U.nodes=aA ys by rw [Jk]);have a3:=O (show T.items=its by rw [ni]);have nP:=O (show U.items=iB by rw [Jk]);have nH:=O fun h=>L9 (T:=T) (fun n H=>(hR n (by rw [ni] at H;exact H)).num) h
 have uH:=O fun h=>L9 (T:=U) (fun n H=>(hS n (by rw [Jk] at H;exact H)).num) h
 rw [← ni,← Jk] at Bo ⊢
 have HT:=O N;have HU:=O hU;clear ni Jk N hU hR hS hE;have Q:=O ((((aC.new w 26 #[.slice A xs.length c,.slice B its.length d]).alloc (.cells #[.slice A' ys.length l,.slice B' iB.length q] 26)).alloc (.cells #[.slice none 0 0,.slice none 0 0] 26)).alloc (.cells #[.slice A xs.length c,.slice B its.length d,.slice A' ys.length l,.slice B' iB.length q] 26));have pQ:=O (((dL (W:=w.alloc (.cells #[.slice A xs.length c,.slice B its.length d] 26)) (T:=26) (cs:=#[.slice A' ys.length l,.slice B' iB.length q]) (k:=w.heap.size+1) (by simp)).alloc (.cells #[.slice none 0 0,.slice none 0 0] 26)).alloc (.cells #[.slice A xs.length c,.slice B its.length d,.slice A' ys.length l,.slice B' iB.length q] 26));have Z:=O ((dL (W:=(w.alloc (.cells #[.slice A xs.length c,.slice B its.length d] 26)).alloc (.cells #[.slice A' ys.length l,.slice B' iB.length q] 26)) (T:=26) (cs:=#[.slice none 0 0,.slice none 0 0]) (k:=w.heap.size+1+1) (by simp)).alloc (.cells #[.slice A xs.length c,.slice B its.length d,.slice A' ys.length l,.slice B' iB.length q] 26));have L:=O (dL (W:=((w.alloc (.cells #[.slice A xs.length c,.slice B its.length d] 26)).alloc (.cells #[.slice A' ys.length l,.slice B' iB.length q] 26)).alloc (.cells #[.slice none 0 0,.slice none 0 0] 26)) (T:=26) (cs:=#[.slice A xs.length c,.slice B its.length d,.slice A' ys.length l,.slice B' iB.length q]) (k:=w.heap.size+1+1+1) (by simp));have M:=O (ah (ah (ah (ah (Below.refl w.heap.size w) (aaJ _) (o:=.cells #[.slice A xs.length c,.slice B its.length d] 26)) (by simp) (o:=.cells #[.slice A' ys.length l,.slice B' iB.length q] 26)) (by simp;omega) (o:=.cells #[.slice none 0 0,.slice none 0 0] 26)) (by simp;omega) (o:=.cells #[.slice A xs.length c,.slice B its.length d,.slice A' ys.length l,.slice B' iB.length q] 26));go_in
 go_wp2_with fail;refine (Bo.o _ M.o _ L.o).mono ?_;rintro e w1⟨rfl,y⟩;have HB:=O (Q.o.below y Q.o.lt);have HK:=O (pQ.o.below y pQ.o.lt);have K:=O (Z.o.below y Z.o.lt);have u:=O (M.o.trans (y.mono M.o.size));clear y Q pQ Z L M Bo;have t0:=HB.o.cell 0;have t1:=HB.o.cell 1;have u0:=HK.o.cell 0;have u1:=HK.o.cell 1;have v0:=K.o.cell 0;have v1:=K.o.cell 1;have g0:=K.o.frozen 0;have g1:=K.o.frozen 1;by_cases a:two T U=0
 case neg =>
  have HX:=O (show kS T U=two T U by unfold kS;rw [if_pos a]);have gL:=O a;obtain⟨E,kZ⟩:∃ E,E=two T U:=⟨_,rfl⟩;rw [← kZ] at a HX gL ⊢
  have e1:(E != 0)=true:=by simpa using a
  clear a kZ;go_wp2_with fail;have I:=(K.o.d_ 0 (.slice none 0 0)).d_ 1 (.slice none 0 0);have r0:=I.cell 0;have r1:=I.cell 1;refine bodyPost_ret (v:=.tuple #[.agg #[.slice none 0 0,.slice none 0 0],.int .i64 E]) (by simp [results,Tryz.f45,go_sem,r0,r1]) rfl ?_;exact⟨dx (dx u.o (by omega)) (by omega),.inl ⟨by rw [HX.o];exact gL.o,by rw [HX.o]⟩⟩
 obtain⟨lg,lu⟩:=bV a;have F:=O (GH lg);have fD:=O (GH lu);have uR:=O (DT lg);have nX:=O (DT lu);have jU:=O (KP (iF lg).2.1 (nH.o lg) 0);have jW:=O (KP (iF lu).2.1 (uH.o lu) xs.length);rw [U_.o,a3.o] at F jU
 rw [Y.o,nP.o] at fD jW
 rw [U_.o] at uR
 rw [Y.o] at nX
 rw [aD] at F fD
 have gL:=O a;have cK:=O (show kS T U=if kP (xs.length+ys.length) (its.length+iB.length)=true then 5 else 0 by unfold kS;rw [if_neg (by rw [a];simp),U_.o,Y.o,a3.o,nP.o,aD,aD]);rw [a];clear a lg lu nH uH
 have o8:=O (show JS (w.heap.size+1+1+1) (w1.alloc (.cells #[.slice A xs.length c,.slice B its.length d,.slice A' ys.length l,.slice B' iB.length q] 26)) (w.heap.size+1+1) (.slice none 0 0) (.slice none 0 0) [] [] from
  ⟨K.o.alloc _,by omega,World.ownsRow_nil _ _ _ _,(fun x hx=>by cases hx),World.ownsRow_nil _ _ _ _,(fun x hx=>by cases hx)⟩)
 have L:=O (aC.new w1 26 #[.slice A xs.length c,.slice B its.length d,.slice A' ys.length l,.slice B' iB.length q]);have M:=O (ah u.o u.o.size (o:=.cells #[.slice A xs.length c,.slice B its.length d,.slice A' ys.length l,.slice B' iB.length q] 26));have a7:w.heap.size+1+1 < w1.heap.size:=K.o.lt;go_wp2_with fail
 generalize w1.alloc (.cells #[.slice A xs.length c,.slice B its.length d,.slice A' ys.length l,.slice B' iB.length q] 26)=w4 at o8 L M ⊢
 generalize w1.heap.size=gb at L a7 ⊢
 clear HB HK K u t0 t1 u0 u1 v0 v1 g0 g1;have q8:w.heap.size+1+1+1≤w4.heap.size:=Nat.le_trans (by omega) (Nat.succ_le_of_lt L.o.lt);go_loopw [21] (fun i wr=>∃ (k:Nat) (nv iv:Value) (ext:List NV) (is:List Int),k≤2∧i=.int .i64 k∧Hid (is=if k=0 then [] else if k=1 then its else its ++ iB.map (·+(xs.length:Int)))∧Hid (aA ext=if k=0 then [] else if k=1 then aA xs else aA xs ++ (aA ys).map (lI (xs.length:Int)))∧Hid (JS (w.heap.size+1+1+1) wr (w.heap.size+1+1) nv iv ext is)∧Hid (aC wr gb 26 #[.slice A xs.length c,.slice B its.length d,.slice A' ys.length l,.slice B' iB.length q])∧Hid (Below w.heap.size w wr)∧Hid (w.heap.size+1+1+1≤wr.heap.size)) (fun i _=>2 - (intOf i).toNat)
 case atStart=>exact⟨0,_,_,[],[],by omega,rfl,O rfl,O rfl,o8,L,M,O q8⟩
 case round =>
  clear o8 L M;obtain⟨P,rfl⟩:∃ P:World,P=wr:=⟨_,rfl⟩;obtain⟨k,nv,iv,ext,is,hk,rfl,S,Li,HJ,J,u,sU⟩:=hrel;have q0:=J.o.cell 0;have q1:=J.o.cell 1;have q2:=J.o.cell 2;have q3:=J.o.cell 3;have a8:k=0∨k=1∨k=2:=by omega
  rcases a8 with rfl | rfl | rfl
  ·obtain rfl:[]=is:=S.o.symm;have j:=O (ah (Below.refl P.heap.size P) (aaJ _) (o:=.cells #[.slice A xs.length c,.slice B its.length d] 26));have X:=O (u.o.trans (j.o.mono u.o.size));have V:=O (HJ.o.below j.o);have R:=O (J.o.below j.o J.o.lt);have a4:=u.o.size;have fE:=O (Nat.le_trans sU.o j.o.size);have f:ext.length=0:=by have h9:=congrArg List.length Li.o;simpa [aD] using h9
   go_wp2_with fail;refine (Kr (w.heap.size+1+1+1) (w.heap.size+1+1) nv iv ext [] A c xs 0 w _ V.o HT.o.nodes X.o (by omega) fE.o (by have:=F.o;omega) (by have:=F.o;have:=fD.o;first | omega|(simp;done)) (by have:=F.o;have:=fD.o;omega) (by omega) (Qe uR.o (by have:=F.o;omega)) gb _ R.o (by omega)).mono ?_;rintro e w3⟨rfl,b,t,FM,lX,fO,C,D⟩;have fG:=O (show w.heap.size+1+1+1≤w3.heap.size from Nat.le_trans (by omega) (Nat.succ_le_of_lt t.lt))
   have a5:aA fO=aA xs:=by
    rw [D,show ((ext.length:Int) - 0)=0 by omega,show (lI 0:Nd→Nd)=id from funext Sg,List.map_id]
   have pK:=O (show JS (w.heap.size+1+1+1) w3 (w.heap.size+1+1) FM lX fO its by
    have h9:=C;rw [List.length_eq_zero_iff.1 f] at h9
    rw [List.length_nil,jU.o] at h9
    simpa using h9)
   have oP:=O t;have Nt:=O b;have Yt:=O a5;clear C D a5 b t f;go_wp2_with fail;exact⟨⟨1,FM,lX,fO,its,by omega,rfl,O rfl,Yt,pK,oP,Nt,fG⟩,by simp [intOf]⟩
  ·obtain rfl:its=is:=S.o.symm;have j:=O (ah (Below.refl P.heap.size P) (aaJ _) (o:=.cells #[.slice A' ys.length l,.slice B' iB.length q] 26));have X:=O (u.o.trans (j.o.mono u.o.size));have V:=O (HJ.o.below j.o);have R:=O (J.o.below j.o J.o.lt);have a4:=u.o.size;have fE:=O (Nat.le_trans sU.o j.o.size);have f:ext.length=xs.length:=by have h9:=congrArg List.length Li.o;simpa [aD] using h9
   go_wp2_with fail;refine (Kr (w.heap.size+1+1+1) (w.heap.size+1+1) nv iv ext its A' l ys 0 w _ V.o HU.o.nodes X.o (by omega) fE.o (by have:=F.o;omega) (by have:=F.o;have:=fD.o;first | omega|(simp;done)) (by have:=F.o;have:=fD.o;omega) (by omega) (Qe nX.o (by have:=fD.o;omega)) gb _ R.o (by omega)).mono ?_;rintro e w3⟨rfl,b,t,FM,lX,fO,C,D⟩;have fG:=O (show w.heap.size+1+1+1≤w3.heap.size from Nat.le_trans (by omega) (Nat.succ_le_of_lt t.lt))
   have pK:=O (show JS (w.heap.size+1+1+1) w3 (w.heap.size+1+1) FM lX (ext ++ fO) (its ++ iB.map (·+(xs.length:Int))) by
    have h9:=C
    rwa [f,jW.o] at h9)
   have Yt:=O (show aA (ext ++ fO)=aA xs ++ (aA ys).map (lI (xs.length:Int)) by
    rw [nY,D,f,Int.sub_zero];have h8:aA ext=aA xs:=Li.o;rw [h8])
   have oP:=O t;have Nt:=O b;clear C D b t f;go_wp2_with fail;exact⟨⟨2,FM,lX,ext ++ fO,_,by omega,rfl,O rfl,Yt,pK,oP,Nt,fG⟩,by simp [intOf]⟩
  ·obtain rfl:its ++ iB.map (·+(xs.length:Int))=is:=S.o.symm;have a0:aA ext=aA xs ++ (aA ys).map (lI (xs.length:Int)):=Li.o;have f:ext.length=xs.length+ys.length:=by have h9:=congrArg List.length a0;simpa [aD] using h9
   obtain⟨An,cn,rfl⟩:=dh HJ.o.own;obtain⟨Bn,dn,rfl⟩:=dh HJ.o.row;have HX:=O a0;have a1:(its ++ iB.map (·+(xs.length:Int))).length=its.length+iB.length:=by simp
   have N:aC P (w.heap.size+1+1) 26 #[.slice An (xs.length+ys.length) cn,.slice Bn (its.length+iB.length) dn]:=by have h9:=HJ.o.blk;rwa [f,a1] at h9
   have rE:=O N;have a2:=O (show RowsIn w.heap.size P (.slice An (xs.length+ys.length) cn) (.slice Bn (its.length+iB.length) dn) ext (its ++ iB.map (·+(xs.length:Int))) by have h9:=HJ.o.rows.up (g':=w.heap.size) (by omega);rwa [f,a1] at h9);have v0:=N.cell 0;have v1:=N.cell 1;clear a0 f a1 N q0 q1 q2 q3;obtain⟨n,H⟩:∃ n,n=xs.length+ys.length:=⟨_,rfl⟩;obtain⟨m,hm⟩:∃ m,m=its.length+iB.length:=⟨_,rfl⟩;rw [← H,← hm] at rE a2 cK
   rw [← H] at v0
   rw [← hm] at v1
   clear H hm;have a4:=u.o.size;go_wp2_with fail;refine (Eb An Bn n m cn dn _).mono ?_;rintro e w3⟨rfl,b⟩;have r:=O (rE.o.below b rE.o.lt);have a6:=O (a2.o.below b);have lS:=O (u.o.trans (b.mono u.o.size));clear b v0 v1;have v0:=r.o.cell 0;have v1:=r.o.cell 1;have g0:=r.o.frozen 0;have g1:=r.o.frozen 1
   cases G:kP n m
   ·have Xn:=O (show kS T U=0 by rw [cK.o,G];rfl);clear G;go_wp2_with fail;have I:=(r.o.d_ 0 (.slice An n cn)).d_ 1 (.slice Bn m dn);have r0:=I.cell 0;have r1:=I.cell 1;refine bodyPost_ret (v:=.tuple #[.agg #[.slice An n cn,.slice Bn m dn],.int .i64 0]) (by simp [results,Tryz.f45,go_sem,r0,r1]) rfl ?_;exact⟨dx (dx lS.o (by omega)) (by omega),.inr ⟨Xn.o,_,_,ext,rfl,(a6.o.tY r.o).tY (r.o.d_ 0 _),HX.o⟩⟩
   ·have Xn:=O (show kS T U=5 by rw [cK.o,G];rfl);clear G;go_wp2_with fail;have I:=(r.o.d_ 0 (.slice none 0 0)).d_ 1 (.slice none 0 0);have r0:=I.cell 0;have r1:=I.cell 1;refine bodyPost_ret (v:=.tuple #[.agg #[.slice none 0 0,.slice none 0 0],.int .i64 5]) (by simp [results,Tryz.f45,go_sem,r0,r1]) rfl ?_;exact⟨dx (dx lS.o (by omega)) (by omega),.inl ⟨by rw [Xn.o];simp,by rw [Xn.o]⟩⟩
end Go.Proofs.YthepmkjggfijoaaGreatDoor
