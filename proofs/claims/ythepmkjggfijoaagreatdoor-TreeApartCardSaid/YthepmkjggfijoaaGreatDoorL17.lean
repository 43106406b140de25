/-
  A part of the proof.
-/
import Derived.Test.YthepmkjggfijoaaGreatDoorSA
import Derived.BigQuiet
import Derived.Test.YthepmkjggfijoaaGreatDoorL10
import Derived.Test.YthepmkjggfijoaaGreatDoorL13
import Derived.Test.YthepmkjggfijoaaGreatDoorL16
set_option linter.all false
set_option maxRecDepth 100000
set_option maxHeartbeats 4000000
namespace Go.Proofs.YthepmkjggfijoaaGreatDoor
open Go.RowKit Mist
attribute [local go_sem] aj aH aS aB ak
theorem Nk {ns:List Nd}{a ys:List NV}{G p:Nat}(h1:aA a=gX ns G (G+p+1))(h2:aA ys=ns){q:Nat}{x y:NV}(g:q < p+1)(d:a[q]? = some x)(hy:ys[G+q]? = some y):x.1.kind=y.1.kind∧x.1.text=y.1.text∧x.1.n=y.1.n∧x.1.at_=y.1.at_:=by
 have b:=gP d;have c:=gP hy;rw [h1] at b
 rw [h2] at c
 obtain⟨_,z,f,e⟩:=xJ b;obtain rfl:z=y.1:=aaP (f.symm.trans c);rw [e];exact⟨rfl,rfl,rfl,rfl⟩
theorem aC.on {w a:World}{b:Nat}{T:TypeId}{cs:Array Value}(h:aC w b T cs)(c:Below w.heap.size w a):aC a b T cs:=h.below c h.lt
theorem LZ (zA:Bs)(lv:Value)(w:World)(hE:Env w)(hP:Pow w)(hS:kG w w.heap.size lv zA) :
  Calls Tryz.prog 13 #[lv] w fun e j=>e=.returned (.bool true)∧Below w.heap.size w j:=by
 have HE:=O hE;clear hE;have g2:=O (Qy true zA lv w hP hS);obtain⟨A0,c0,rfl,_⟩:=id hS;clear hS hP;go_in
 go_wp2_with fail;refine g2.o.mono ?_;rintro e w1⟨i1,A,B,c,d,xs,rfl,m9,hT⟩;have c5:=O i1;clear i1 hT m9 g2;have SV:=O (ah c5.o c5.o.size (o:=.cells #[.slice A xs.length c,.slice B (grown true zA).ix.length d] 26));clear c5
 cases e9:qE (cK true zA)
 case false =>
  clear e9;go_wp2_with fail;refine (rV _ (HE.o.below SV.o)).mono ?_;rintro e w2⟨rfl,a3⟩;have c8:=O (SV.o.trans (a3.mono SV.o.size));clear a3;go_wp2_with fail;go_ret;exact⟨by first | rfl | simp,c8.o⟩
 obtain⟨T,G0⟩:=QC true zA e9;have HG:=O G0;have HF:=O G0.fine;clear e9 G0;obtain⟨n,hn⟩:∃ n,n=T.nodes.length:=⟨_,rfl⟩;obtain⟨m,hm⟩:∃ m,m=T.items.length:=⟨_,rfl⟩;have o9:n≤800:=by rw [hn];exact HF.o.few
 have o6:m≤12:=by rw [hm];exact HF.o.itf
 have HN:=O hn.symm;have X:=O hm.symm;clear hn hm;go_wp2_with fail
 generalize w1.alloc (.cells #[.slice A xs.length c,.slice B (grown true zA).ix.length d] 26)=w2 at SV ⊢
 generalize w1.heap.size=gb
 refine (FP HG.o _ (HE.o.below SV.o)).mono ?_;rintro e M⟨i2,U,V,R,E,ys,rfl,k1,Ga⟩;rw [HN.o,X.o];have c6:=O (SV.o.trans (i2.mono SV.o.size));have g5:=O Ga;have b4:=O k1;have k0:ys.length=n:=by rw [← aD,b4.o,HN.o]
 have d7:=O k0;clear i2 Ga k1 k0 SV HG;have tO:=O (ah c6.o c6.o.size (o:=.cells #[.slice U n R,.slice V m E] 26));have g6:=O (g5.o.below (ah (Below.refl M.heap.size M) (aaJ _) (o:=.cells #[.slice U n R,.slice V m E] 26)));have Zi:=O (aC.new M 26 #[.slice U n R,.slice V m E]);have a4:M.heap.size < (M.alloc (.cells #[.slice U n R,.slice V m E] 26)).heap.size:=by simp
 have cu:=O (ah (Below.refl (M.alloc (.cells #[.slice U n R,.slice V m E] 26)).heap.size (M.alloc (.cells #[.slice U n R,.slice V m E] 26))) (aaJ _) (o:=.cells #[.slice none 0 0,.slice none 0 0] 26));have L:=O (aC.new (M.alloc (.cells #[.slice U n R,.slice V m E] 26)) 26 #[.slice none 0 0,.slice none 0 0]);have e7:(M.alloc (.cells #[.slice U n R,.slice V m E] 26)).heap.size=M.heap.size+1:=by simp
 rw [e7] at L
 clear g5 c6;go_wp2_with fail
 generalize n0:(M.alloc (.cells #[.slice U n R,.slice V m E] 26)).alloc (.cells #[.slice none 0 0,.slice none 0 0] 26)=w5 at cu L ⊢
 clear n0
 generalize M.alloc (.cells #[.slice U n R,.slice V m E] 26)=w4 at tO g6 Zi a4 cu e7 ⊢
 obtain⟨tb,j5⟩:∃ tb,tb=M.heap.size:=⟨_,rfl⟩;obtain⟨ab,g9⟩:∃ ab,ab=M.heap.size+1:=⟨_,rfl⟩;rw [← g9] at L e7 ⊢
 rw [← j5] at Zi a4 ⊢
 clear g9 j5;go_loopw [10,11] (fun fv iv wr=>∃ (k:Nat) (ZQ Q:Option Addr) (ca da:Nat) (zs:List NV),k≤m∧fv=.int .i64 (mD T.items k)∧iv=.int .i64 k∧Hid (aC wr ab 26 #[.slice ZQ (mD T.items k) ca,.slice Q k da])∧Hid (mq wr ZQ Q zs (T.items.take k))∧Hid (aA zs=T.nodes.take (mD T.items k))∧Hid (Below w4.heap.size w4 wr)) (fun _ i _=>m - (intOf i).toNat)
 case atStart=>exact⟨0,none,none,0,0,[],aaL _,rfl,rfl,L,O ⟨fun h=>absurd h (by simp),⟨fun h=>absurd h (by simp)⟩⟩,O rfl,cu⟩
 case round =>
  clear L cu;obtain⟨wo,rfl⟩:∃ wo:World,wo=wr:=⟨_,rfl⟩;obtain⟨k,ZQ,Q,ca,da,zs,hk,rfl,rfl,XD,HZ,a2,HO⟩:=hrel;have Eh:=O (Zi.o.below HO.o a4);have Z:=O (g6.o.below HO.o);have c7:=O (HE.o.below (tO.o.trans (HO.o.mono tO.o.size)));have t0:=Eh.o.cell 0;have t1:=Eh.o.cell 1;by_cases m8:k < m
  ·obtain⟨la,D,e5,e8,j2⟩:=(wK HF.o.fo rfl k (by rw [X.o];exact hk)).2.2 (by rw [X.o];exact m8);rw [HN.o] at e8
   obtain⟨G,hG⟩:∃ G,mD T.items k=G:=⟨_,rfl⟩;rw [hG] at e5 j2 XD a2 ⊢
   obtain⟨p,rfl⟩:∃ p,la=G+p:=⟨la - G,by omega⟩;have g1:=O hG;have J:=O D;have Xm:=O e5;clear hG D e5 j2;go_wp2_with fail;refine (yK HF.o R E n m Z.o b4.o HN.o X.o).mono ?_;rintro e w6⟨h,An,Bn,cn,dn,us,rfl,hz,F,a5,b7⟩;have QX:=O h;have hc:=Qh HF.o cn dn n m hz F a5 X.o b7 (c7.o.below h) J.o Xm.o (by rw [HN.o];exact e8);obtain⟨s,hs⟩:∃ s,s=p+1:=⟨_,rfl⟩;rw [show G+p+1 - G=s by omega,show G+p - G=p by omega] at hc
   have Dv:s≤800:=by omega
   have Wu:=O hs;have HC:=O hc;clear h hz F a5 b7 hc hs;go_wp2_with fail;refine HC.o.mono ?_;rintro e w7⟨h,TR,Wx,cc,dc,cx,rfl,i5,i4,i3⟩;have d5:=O (QX.o.trans (h.mono QX.o.size));have TG:=O (ah d5.o d5.o.size (o:=.cells #[.slice TR s cc,.slice Wx 1 dc] 26));have Lg:=O (aC.new w7 26 #[.slice TR s cc,.slice Wx 1 dc]);have a9:=O (i5.below (ah (Below.refl w7.heap.size w7) (aaJ _) (o:=.cells #[.slice TR s cc,.slice Wx 1 dc] 26)));have g0:=O i4;have f9:=O i3;clear HC QX h i5 i4 i3 d5 t0 t1;go_wp2_with fail
   generalize w7.alloc (.cells #[.slice TR s cc,.slice Wx 1 dc] 26)=w8 at TG Lg a9 ⊢
   generalize w7.heap.size=cb at Lg ⊢
   obtain⟨ib,io,d8,m7,i6⟩:=(Z.o.below TG.o).items.ex (by rw [X.o];omega);obtain⟨jb,m6,e0,o5,i7⟩:=a9.o.items.ex (by simp);have i0:=i6 k _ J.o;have j0:w8.cell? ⟨jb,m6,none⟩=some (.int .i64 (p:Int)):=i7 0 _ rfl;have k5:=O i0;have b6:=O (XD.o.below TG.o XD.o.lt);have TJ:=O (Eh.o.below TG.o Eh.o.lt);have l0:=O (Z.o.below TG.o);have m2:=O (HZ.o.below TG.o);have g4:=O (HO.o.trans (TG.o.mono HO.o.size));have k3:=O (c7.o.below TG.o);clear i6 i7;have t0:=TJ.o.cell 0;have t1:=TJ.o.cell 1;have x0:=Lg.o.cell 0;have x1:=Lg.o.cell 1;rw [d8] at t1
   rw [e0] at x1
   have z0:(0:Int)≤(k:Int):=by omega
   have z1:(k:Int) < (m:Int):=by omega
   have z2:IntKind.i64.wrap (((G+p:Nat):Int) - (G:Int))=(p:Int):=by rw [IntWalk.i64_in _ (by omega)];omega
   have n3:IntKind.i64.wrap ((G:Int)+(p:Int) - (G:Int))=(p:Int):=by rw [IntWalk.i64_in _ (by omega)];omega
   have n4:IntKind.i64.wrap (p:Int)=(p:Int):=by rw [IntWalk.i64_in _ (by omega)]
   have z3:IntKind.i64.wrap ((p:Int)+1)=(s:Int):=by have:=Wu.o;rw [IntWalk.i64_in _ (by omega)];omega
   have z4:IntKind.i64.wrap ((s:Int) - 1)=(p:Int):=by have:=Wu.o;rw [IntWalk.i64_in _ (by omega)];omega
   have z5:((s:Int) != (s:Int))=false:=by simp
   have z6:((p:Int) != (p:Int))=false:=by simp
   have vL:=O d8;have n5:=O e0;clear d8 e0;go_quiet (fail)
   have g3:=O (Below.trans (Below.refl w8.heap.size w8) (show Below w8.heap.size w8 (w8.drewN nq) from ⟨rfl,rfl,rfl,aaJ _,fun _ _=>rfl⟩));clear XD Eh Z HZ HO c7 TG i0 j0 t0 t1 x0 x1 z2 n3 n4 z3 z4 z5 z6;go_wp2_with fail;go_loopw [14] (fun iv wr=>∃ q:Nat,q≤s∧iv=.int .i64 q∧Hid (Below w8.heap.size w8 wr)) (fun i _=>s - (intOf i).toNat)
   case atStart=>exact⟨0,aaL _,rfl,g3⟩
   case round =>
    obtain⟨q,hq,rfl,I⟩:=hrel;obtain⟨wi,j7⟩:∃ wi:World,wi=wr:=⟨_,rfl⟩;rw [← j7] at I ⊢
    clear j7 g3;have S:=O (Lg.o.below I.o Lg.o.lt);have Zc:=O (TJ.o.below I.o TJ.o.lt);have t0:=Zc.o.cell 0;have x0:=S.o.cell 0;by_cases p4:q < s
    ·obtain⟨x,hx⟩:∃ x,cx[q]? = some x:=jD (by rw [f9.o];have:=Wu.o;omega);obtain⟨r,hr⟩:∃ r,r=G+q:=⟨_,rfl⟩;have j4:r < n:=by have:=Wu.o;omega
     obtain⟨y,hy⟩:∃ y,ys[r]? = some y:=jD (by rw [d7.o];exact j4);obtain⟨e1,e2,e3,e4⟩:=Nk g0.o b4.o (by have:=Wu.o;omega) hx (by rw [← hr];exact hy);obtain⟨b,o,hA,yc⟩:=(a9.o.below I.o).nodes (by rw [f9.o];have:=Wu.o;omega);obtain⟨b2,o2,hB,F8⟩:=(l0.o.below I.o).nodes (by rw [d7.o];omega);have f5:=yc.c0 q x hx;have f6:=yc.c1 q x hx;have f7:=yc.c2 q x hx;have a8:=yc.c3 q x hx;have f8:=yc.c4 q x hx;have d0:=F8.c0 r y hy;have d1:=F8.c1 r y hy;have E:=F8.c2 r y hy;have d3:=F8.c3 r y hy;have d4:=F8.c4 r y hy;have l1:=yc.lt;have l2:=F8.lt;have l3:=S.o.lt;have l4:=Zc.o.lt;obtain⟨Ka,kc,j8,_,_⟩:=yc.kid hx;obtain⟨Kb,a6,j9,_,_⟩:=F8.kid hy;rw [j8] at a8
     rw [j9] at d3
     rw [← e1] at d0
     rw [← e2] at d1
     rw [← e3] at E
     rw [← e4] at d4
     rw [hA] at x0
     rw [hB] at t0
     obtain⟨⟨kd,tx,nn,ks,at_⟩,xv⟩:=x;obtain⟨⟨p5,p7,p6,n1,o1⟩,yv⟩:=y;simp only at f5 f6 f7 a8 f8 d0 d1 E d3 d4
     obtain⟨nk,j3⟩:∃ nk,nk=ks.length:=⟨_,rfl⟩;obtain⟨a7,c4⟩:∃ nk,nk=n1.length:=⟨_,rfl⟩;rw [← j3] at a8
     rw [← c4] at d3
     clear j3 c4;have y0:(0:Int)≤(q:Int):=by omega
     have y1:(q:Int) < (s:Int):=by omega
     have y2:(0:Int)≤(r:Int):=by omega
     have y3:(r:Int) < (n:Int):=by omega
     have y4:IntKind.i64.wrap ((G:Int)+(q:Int))=(r:Int):=by rw [IntWalk.i64_in _ (by omega)];omega
     have o3:=O hA;have o4:=O hB;have o0:=O hr;clear hx hy e1 e2 e3 e4 hA hB yc F8 hr j4 j8 j9;go_wp2_with fail
     go_region_held3 (fun j=>j.cell? ⟨tb,0,none⟩=some (.slice (some ⟨b2,o2,none⟩) n R)∧j.cell? ⟨cb,0,none⟩=some (.slice (some ⟨b,o,none⟩) s cc)∧j.cell? ⟨b,o+q * 5,none⟩=some (.int .u8 kd)∧j.cell? ⟨b,o+q * 5+1,none⟩=some (.string (aM tx))∧j.cell? ⟨b,o+q * 5+2,none⟩=some (.int .i64 nn)∧j.cell? ⟨b,o+q * 5+3,none⟩=some (.slice Ka nk kc)∧j.cell? ⟨b,o+q * 5+4,none⟩=some (.int .i64 at_)∧j.cell? ⟨b2,o2+r * 5,none⟩=some (.int .u8 kd)∧j.cell? ⟨b2,o2+r * 5+1,none⟩=some (.string (aM tx))∧j.cell? ⟨b2,o2+r * 5+2,none⟩=some (.int .i64 nn)∧j.cell? ⟨b2,o2+r * 5+3,none⟩=some (.slice Kb a7 a6)∧j.cell? ⟨b2,o2+r * 5+4,none⟩=some (.int .i64 at_))
      (first|(go_split_ands;refine⟨?_,?_,?_,?_,?_,?_,?_,?_,?_,?_,?_,?_⟩ <;> (repeat (first|(rw [World.cell?_setCell_other _ _ _ _ (by intro e;injection e with e;omega)])|(rw [World.cell?_alloc_lt _ _ _ (by first|(show _ < World.heap.size _;omega)|(simp;omega))])|(rw [World.cell?_drew]))) <;> assumption) | go_keep)
      ((fail))
     ·obtain⟨hP,hQ,hB⟩:=Ar wi #[.int .u8 kd,.string (aM tx),.int .i64 nn,.slice Ka nk kc,.int .i64 at_] #[.int .u8 kd,.string (aM tx),.int .i64 nn,.slice Kb a7 a6,.int .i64 at_];have Y:=O hP;have u:=O hQ;have EZ:=O (I.o.trans (hB.mono I.o.size));clear hP hQ hB
      generalize (((wi.alloc (.cells #[.int .u8 kd,.string (aM tx),.int .i64 nn,.slice Ka nk kc,.int .i64 at_] 50)).alloc (.cells #[.int .u8 kd,.string (aM tx),.int .i64 nn,.slice Kb a7 a6,.int .i64 at_] 50)).drew)=wj at Y u EZ ⊢
      have p0:=Y.o.cell 0;have p1:=Y.o.cell 1;have p2:=Y.o.cell 2;have p3:=Y.o.cell 4;have q0:=u.o.cell 0;have q1:=u.o.cell 1;have q2:=u.o.cell 2;have q3:=u.o.cell 4;clear f5 f6 f7 a8 f8 d0 d1 E d3 d4 t0 x0;go_wp2_with fail;exact⟨⟨q+1,by omega,by go_num,EZ⟩,by simp [intOf];omega⟩
     ·obtain⟨hP,hQ,hB⟩:=Ar wi #[.int .u8 kd,.string (aM tx),.int .i64 nn,.slice Kb a7 a6,.int .i64 at_] #[.int .u8 kd,.string (aM tx),.int .i64 nn,.slice Ka nk kc,.int .i64 at_];have Y:=O hP;have u:=O hQ;have EZ:=O (I.o.trans (hB.mono I.o.size));clear hP hQ hB
      generalize (((wi.alloc (.cells #[.int .u8 kd,.string (aM tx),.int .i64 nn,.slice Kb a7 a6,.int .i64 at_] 50)).alloc (.cells #[.int .u8 kd,.string (aM tx),.int .i64 nn,.slice Ka nk kc,.int .i64 at_] 50)).drew)=wj at Y u EZ ⊢
      have p0:=Y.o.cell 0;have p1:=Y.o.cell 1;have p2:=Y.o.cell 2;have p3:=Y.o.cell 4;have q0:=u.o.cell 0;have q1:=u.o.cell 1;have q2:=u.o.cell 2;have q3:=u.o.cell 4;clear f5 f6 f7 a8 f8 d0 d1 E d3 d4 t0 x0;go_wp2_with fail;exact⟨⟨q+1,by omega,by go_num,EZ⟩,by simp [intOf];omega⟩
    ·obtain rfl:q=s:=by omega
     have i0:=(I.o.cell (by exact m7)).trans k5.o;have t1:=Zc.o.cell 1;rw [vL.o] at t1
     have z7:IntKind.i64.wrap (((G+p:Nat):Int)+1)=((G+p+1:Nat):Int):=by rw [IntWalk.i64_in _ (by omega)];omega
     go_wp2_with fail;have BJ:=O (b6.o.below I.o b6.o.lt);have m5:=O (m2.o.below I.o);have l8:=O (a9.o.below I.o);have k4:=O (k3.o.below I.o);have d6:=O (g4.o.trans (I.o.mono g4.o.size));have e6:=Fq HF.o (k:=k) (by rw [X.o];exact hk);have b5:=Fa HF.o J.o;rw [g1.o] at e6 b5
     rw [show G+p - G=p by omega] at b5
     have k8:=O fun W (g:Below wi.heap.size wi W)=>yK e6 ca da G k (m5.o.below g) a2.o (by show (T.nodes.take G).length=G;rw [List.length_take,HN.o];omega) (by show (T.items.take k).length=k;rw [List.length_take,X.o];omega)
     have k9:=O fun W (g:Below wi.heap.size wi W)=>yK b5 cc dc q 1 (l8.o.below g) g0.o (by show (gX T.nodes G (G+p+1)).length=q;rw [uI (by rw [HN.o];exact e8)];have:=Wu.o;omega) rfl
     have k6:=O fun W (hE:Env W) A B A' B' c d c' d' xs ys (h1:mq W A B xs (T.items.take k)) (h2:mq W A' B' ys [(p:Int)]) (e1:aA xs=T.nodes.take G) (e2:aA ys=gX T.nodes G (G+p+1))=>(show Calls Tryz.prog 45 #[.agg #[.slice A G c,.slice B k d],.agg #[.slice A' q c',.slice B' 1 d']] W fun e j=>Below W.heap.size W j∧∃ An Bn cn dn zs,e=.returned (.tuple #[.agg #[.slice An (G+p+1) cn,.slice Bn (k+1) dn],.int .i64 0])∧mq j An Bn zs (T.items.take (k+1))∧aA zs=T.nodes.take (G+p+1) by
      have h:=MS HF.o c d c' d' (W:=W) (A:=A) (B:=B) (A':=A') (B':=B') (xs:=xs) (ys:=ys) J.o g1.o h1 (by rw [show G+p - G=p by omega];exact h2) e1 e2 hE;rw [show G+p+1 - G=q by have:=Wu.o;omega] at h
      exact h)
     have n9:=d6.o.size;clear e6 b5 i0 t1 t0 x0;have a0:=BJ.o.cell 0;have a1:=BJ.o.cell 1;have b0:=S.o.cell 0;have b1:=S.o.cell 1;have D:=BJ.o.lt;have K:=S.o.lt;have i9:=BJ.o.lt;have j1:=S.o.lt
     go_region_held3 (fun j=>j.cell? ⟨ab,0,none⟩=some (.slice ZQ G ca)∧j.cell? ⟨ab,1,none⟩=some (.slice Q k da)∧j.cell? ⟨cb,0,none⟩=some (.slice TR q cc)∧j.cell? ⟨cb,1,none⟩=some (.slice Wx 1 dc))
      (first|(go_split_ands;refine⟨?_,?_,?_,?_⟩ <;> (repeat (first|(rw [World.cell?_setCell_other _ _ _ _ (by intro e;injection e with e;omega)])|(rw [World.cell?_alloc_lt _ _ _ (by first|(show _ < World.heap.size _;omega)|(simp;omega))])|(rw [World.cell?_drew]))) <;> assumption) | go_keep|(go_split_ands;refine⟨?_,?_,?_,?_⟩ <;> assumption))
      ((first
        | (go_at_call_of 29 (Value.slice ZQ G ca)
           refine (k8.o _ (by (repeat (first|(with_reducible exact Below.refl _ _)|(with_reducible refine Below.drew ?_)|(with_reducible refine ah ?_ (by first | omega|(simp;done)|(simp;omega)))));done)).mono ?_;rintro e H⟨g,A1,B1,c1,d1,k2,rfl,hz,F,_,_⟩;have n6:wi.heap.size≤H.heap.size:=Nat.le_trans (by first | exact aaJ _|(simp;done)|(simp;omega)) g.size;have OD:=O (show Below wi.heap.size wi H from Below.trans (by (repeat (first|(with_reducible exact Below.refl _ _)|(with_reducible refine Below.drew ?_)|(with_reducible refine ah ?_ (by first | omega|(simp;done)|(simp;omega)))));done) (g.mono (by first | omega|(simp;done)|(simp;omega))));have l9:=O hz;have g7:=O F
           (try (have P1:=O (show aC H wi.heap.size 26 #[.slice none 0 0,.slice none 0 0] from aC.on (by (repeat (with_reducible refine aC.drew ?_));(with_reducible refine dL ?_);(first | rfl|(simp;done))) g)))
           have XE:=O (BJ.o.below OD.o BJ.o.lt);have XQ:=O (S.o.below OD.o S.o.lt);clear g hz F a0 a1 b0 b1 D K;have a0:=XE.o.cell 0;have a1:=XE.o.cell 1;have b0:=XQ.o.cell 0;have b1:=XQ.o.cell 1;have D:=XE.o.lt;have K:=XQ.o.lt)
        | (go_at_call_of 29 (Value.slice TR q cc)
           refine (k9.o _ (by (repeat (first|(with_reducible exact OD.o)|(with_reducible refine Below.drew ?_)|(with_reducible refine ah ?_ (by first | omega|(simp;done)|(simp;omega)))));done)).mono ?_;rintro e a⟨g,A3,B3,c3,d3,n2,rfl,hz,F,_,_⟩;have n7:H.heap.size≤a.heap.size:=Nat.le_trans (by first | exact aaJ _|(simp;done)|(simp;omega)) g.size;have OI:=O (show Below wi.heap.size wi a from Below.trans (by (repeat (first|(with_reducible exact OD.o)|(with_reducible refine Below.drew ?_)|(with_reducible refine ah ?_ (by first | omega|(simp;done)|(simp;omega)))));done) (g.mono (by have:=OD.o.size;first | omega|(simp;done)|(simp;omega))));have m0:=O (show mq a A1 B1 k2 (T.items.take k) from mq.below (by (repeat (first|(with_reducible exact l9.o)|(with_reducible refine mq.below ?_ (Below.drew (Below.refl _ _)))|(with_reducible refine mq.below ?_ (ah (Below.refl _ _) (aaJ _)))));done) g);have m1:=O hz;have g8:=O F
           (try (have P2:=O (show aC a wi.heap.size 26 #[.slice none 0 0,.slice none 0 0] from aC.on (by (repeat (with_reducible refine aC.drew ?_));exact P1.o) g)))
           (try (have P2:=O (show aC a H.heap.size 26 #[.slice none 0 0,.slice none 0 0] from aC.on (by (repeat (with_reducible refine aC.drew ?_));(with_reducible refine dL ?_);(first | rfl|(simp;done))) g)))
           have XF:=O (BJ.o.below OI.o BJ.o.lt);have XR:=O (S.o.below OI.o S.o.lt);clear g hz F a0 a1 b0 b1 D K;have a0:=XF.o.cell 0;have a1:=XF.o.cell 1;have b0:=XR.o.cell 0;have b1:=XR.o.cell 1;have D:=XF.o.lt;have K:=XR.o.lt)
        | (go_at_call 45
           refine (k6.o _ (k4.o.below (by (repeat (first|(with_reducible exact OI.o)|(with_reducible refine Below.drew ?_)|(with_reducible refine ah ?_ (by first | omega|(simp;done)|(simp;omega)))));done)) A1 B1 A3 B3 c1 d1 c3 d3 k2 n2 (by (repeat (first|(with_reducible exact m0.o)|(with_reducible refine mq.below ?_ (Below.drew (Below.refl _ _)))|(with_reducible refine mq.below ?_ (ah (Below.refl _ _) (aaJ _)))));done) (by (repeat (first|(with_reducible exact m1.o)|(with_reducible refine mq.below ?_ (Below.drew (Below.refl _ _)))|(with_reducible refine mq.below ?_ (ah (Below.refl _ _) (aaJ _)))));done) g7.o g8.o).mono ?_;rintro e f⟨g,l,t,v,C,js,rfl,hj,i8⟩;have n8:a.heap.size≤f.heap.size:=Nat.le_trans (by first | exact aaJ _|(simp;done)|(simp;omega)) g.size;have GJ:=O (show Below wi.heap.size wi f from Below.trans (by (repeat (first|(with_reducible exact OI.o)|(with_reducible refine Below.drew ?_)|(with_reducible refine ah ?_ (by first | omega|(simp;done)|(simp;omega)))));done) (g.mono (by have:=OI.o.size;first | omega|(simp;done)|(simp;omega))));have b3:=O hj;have k7:=O i8
           (try (have P:=O (show aC f wi.heap.size 26 #[.slice none 0 0,.slice none 0 0] from aC.on (by (repeat (with_reducible refine aC.drew ?_));exact P2.o) g)))
           (try (have P:=O (show aC f H.heap.size 26 #[.slice none 0 0,.slice none 0 0] from aC.on (by (repeat (with_reducible refine aC.drew ?_));exact P2.o) g)))
           (try (have P:=O (show aC f a.heap.size 26 #[.slice none 0 0,.slice none 0 0] from aC.on (by (repeat (with_reducible refine aC.drew ?_));(with_reducible refine dL ?_);(first | rfl|(simp;done))) g)))
           have L:=O (BJ.o.below GJ.o BJ.o.lt);have Yr:=O (S.o.below GJ.o S.o.lt);clear g hj i8 a0 a1 b0 b1 D K
           (try (have f0:=P.o.cell 0;have f1:=P.o.cell 1;have f2:=P.o.frozen 0;have f3:=P.o.frozen 1;have f4:=P.o.lt))
           have a0:=L.o.cell 0;have a1:=L.o.cell 1;have b0:=Yr.o.cell 0;have b1:=Yr.o.cell 1;have K:=Yr.o.lt;have af:=L.o.frozen 0;have ag:=L.o.frozen 1;have D:=L.o.lt)))
     all_goals
      (first
       | (have u:=O (show aC ((f.setCell ⟨a.heap.size,0,none⟩ (.slice l (G+p+1) v)).setCell ⟨a.heap.size,1,none⟩ (.slice t (k+1) C)) _ _ _ from sZ P.o);have N:=O (show aC ((f.setCell ⟨a.heap.size,0,none⟩ (.slice l (G+p+1) v)).setCell ⟨a.heap.size,1,none⟩ (.slice t (k+1) C)) _ _ _ from yg L.o (by omega));have Wo:=O (show mq ((f.setCell ⟨a.heap.size,0,none⟩ (.slice l (G+p+1) v)).setCell ⟨a.heap.size,1,none⟩ (.slice t (k+1) C)) _ _ _ _ from xS b3.o P.o);have Ws:=O (show Below _ _ ((f.setCell ⟨a.heap.size,0,none⟩ (.slice l (G+p+1) v)).setCell ⟨a.heap.size,1,none⟩ (.slice t (k+1) C)) from dx (dx GJ.o (by omega)) (by omega));clear f0 f1 f2 f3 f4;generalize (f.setCell ⟨a.heap.size,0,none⟩ (.slice l (G+p+1) v)).setCell ⟨a.heap.size,1,none⟩ (.slice t (k+1) C)=wz at u N Wo Ws ⊢)
       | (have u:=O (show aC ((f.setCell ⟨H.heap.size,0,none⟩ (.slice l (G+p+1) v)).setCell ⟨H.heap.size,1,none⟩ (.slice t (k+1) C)) _ _ _ from sZ P.o);have N:=O (show aC ((f.setCell ⟨H.heap.size,0,none⟩ (.slice l (G+p+1) v)).setCell ⟨H.heap.size,1,none⟩ (.slice t (k+1) C)) _ _ _ from yg L.o (by omega));have Wo:=O (show mq ((f.setCell ⟨H.heap.size,0,none⟩ (.slice l (G+p+1) v)).setCell ⟨H.heap.size,1,none⟩ (.slice t (k+1) C)) _ _ _ _ from xS b3.o P.o);have Ws:=O (show Below _ _ ((f.setCell ⟨H.heap.size,0,none⟩ (.slice l (G+p+1) v)).setCell ⟨H.heap.size,1,none⟩ (.slice t (k+1) C)) from dx (dx GJ.o (by omega)) (by omega));clear f0 f1 f2 f3 f4;generalize (f.setCell ⟨H.heap.size,0,none⟩ (.slice l (G+p+1) v)).setCell ⟨H.heap.size,1,none⟩ (.slice t (k+1) C)=wz at u N Wo Ws ⊢)
       | (have u:=O (show aC ((f.setCell ⟨wi.heap.size,0,none⟩ (.slice l (G+p+1) v)).setCell ⟨wi.heap.size,1,none⟩ (.slice t (k+1) C)) _ _ _ from sZ P.o);have N:=O (show aC ((f.setCell ⟨wi.heap.size,0,none⟩ (.slice l (G+p+1) v)).setCell ⟨wi.heap.size,1,none⟩ (.slice t (k+1) C)) _ _ _ from yg L.o (by omega));have Wo:=O (show mq ((f.setCell ⟨wi.heap.size,0,none⟩ (.slice l (G+p+1) v)).setCell ⟨wi.heap.size,1,none⟩ (.slice t (k+1) C)) _ _ _ _ from xS b3.o P.o);have Ws:=O (show Below _ _ ((f.setCell ⟨wi.heap.size,0,none⟩ (.slice l (G+p+1) v)).setCell ⟨wi.heap.size,1,none⟩ (.slice t (k+1) C)) from dx (dx GJ.o (by omega)) (by omega));clear f0 f1 f2 f3 f4;generalize (f.setCell ⟨wi.heap.size,0,none⟩ (.slice l (G+p+1) v)).setCell ⟨wi.heap.size,1,none⟩ (.slice t (k+1) C)=wz at u N Wo Ws ⊢)
       | (have u:=O (aC.new f 26 #[.slice l (G+p+1) v,.slice t (k+1) C]);have N:=O (show aC (f.alloc (.cells #[.slice l (G+p+1) v,.slice t (k+1) C] 26)) _ _ _ from L.o.alloc _);have Wo:=O (show mq (f.alloc (.cells #[.slice l (G+p+1) v,.slice t (k+1) C] 26)) _ _ _ _ from b3.o.below (ah (Below.refl _ _) (aaJ _)));have Ws:=O (show Below _ _ (f.alloc (.cells #[.slice l (G+p+1) v,.slice t (k+1) C] 26)) from ah GJ.o GJ.o.size);generalize f.alloc (.cells #[.slice l (G+p+1) v,.slice t (k+1) C] 26)=wz at u N Wo Ws ⊢))
      clear a0 a1 af ag b0 b1 D K i9 j1;have q0:=u.o.cell 0;have q1:=u.o.cell 1;have a0:=N.o.cell 0;have a1:=N.o.cell 1;have af:=N.o.frozen 0;have ag:=N.o.frozen 1;have b9:w4.heap.size≤ab:=by omega
      have Yw:=O (d6.o.trans (Ws.o.mono d6.o.size));go_wp2_with fail;exact⟨⟨k+1,l,t,v,C,js,by omega,by rw [yx J.o];go_num,by go_num,O (by rw [yx J.o];exact sZ N.o),O (xS Wo.o N.o),O (by rw [yx J.o];exact k7.o),O (dx (dx Yw.o b9) b9)⟩,by simp [intOf];omega⟩
  ·obtain rfl:k=m:=by omega
   have b8:mD T.items k=n:=by rw [← X.o,Qp HF.o.fo rfl,HN.o]
   rw [b8] at XD a2 ⊢
   have m3:=O (show mq wo ZQ Q zs T.items by have:=HZ.o;rw [aaN (by rw [X.o];exact aaJ _)] at this;exact this);have a5:zs.length=n:=by rw [← aD,a2.o,List.length_take,HN.o];omega
   have m4:=O a5;have a0:=XD.o.cell 0;have a1:=XD.o.cell 1;clear a5 b8;go_wp2_with fail
   refine (O6 ZQ Q U V ca da R E n k zs ys T.items _ m3.o Z.o (by
    rw [a2.o,b4.o,← HN.o,List.take_length]) m4.o d7.o X.o (by omega) (by omega)).mono ?_
   rintro e w9⟨rfl,h⟩;have c9:=O ((tO.o.trans (HO.o.mono tO.o.size)).trans (h.mono (tO.o.trans (HO.o.mono tO.o.size)).size));clear h;go_wp2_with fail;refine (rV _ (HE.o.below c9.o)).mono ?_;rintro e Qv⟨rfl,a3⟩;have c8:=O (c9.o.trans (a3.mono c9.o.size));clear a3;go_wp2_with fail;go_ret;exact⟨by first | rfl | simp,c8.o⟩
end Go.Proofs.YthepmkjggfijoaaGreatDoor
