/-
  A part of the proof.
-/
import Derived.Test.YthepmkjggfijoaaGreatDoorSA
import Derived.BigQuiet
import Derived.Test.YthepmkjggfijoaaGreatDoorL13
import Derived.Test.YthepmkjggfijoaaGreatDoorL14
import Derived.Test.YthepmkjggfijoaaGreatDoorL15
import Derived.Test.YthepmkjggfijoaaGreatDoorL17
set_option linter.all false
set_option maxRecDepth 100000
set_option maxHeartbeats 4000000
namespace Go.Proofs.YthepmkjggfijoaaGreatDoor
open Go.RowKit Mist
attribute [local go_sem] aj aH aS aB ak
theorem UJ (zA:Bs)(lv:Value)(w:World)(hE:Env w)(hP:Pow w)(hS:lu w w.heap.size lv zA) :
  Calls Tryz.prog 10 #[lv] w fun e t=>e=.returned (.bool true)∧Below w.heap.size w t:=by
 have HE:=O hE;clear hE;have a3:=O (Pq true zA lv w hP hS);have d1:=O hP;obtain⟨A0,c0,rfl,_⟩:=id hS;clear hS hP;go_in
 go_wp2_with fail;refine a3.o.mono ?_;rintro e w1⟨b2,A,B,c,d,xs,rfl,d5,hT⟩;have L:=O b2;clear b2 hT d5 a3;have H:=O (ah L.o L.o.size (o:=.cells #[.slice A xs.length c,.slice B (grown true zA).ix.length d] 26));clear L
 cases a0:q9 (bZ true zA)
 case false =>
  clear a0;go_wp2_with fail;refine (rV _ (HE.o.below H.o)).mono ?_;rintro e w2⟨rfl,g⟩;have R:=O (H.o.trans (g.mono H.o.size));clear g;go_wp2_with fail;go_ret;exact⟨by first | rfl | simp,R.o⟩
 obtain⟨T,G0⟩:=Pw true zA a0;have HG:=O G0;obtain⟨gp,b5,b4⟩:=MR G0;have Q:=O b5;have c7:=O b4;have d3:=G0.len;clear b5 b4;have HF:=O G0.fine;clear a0 G0;obtain⟨n,hn⟩:∃ n,n=T.nodes.length:=⟨_,rfl⟩;obtain⟨m,hm⟩:∃ m,m=T.items.length:=⟨_,rfl⟩;have d8:n≤800:=by rw [hn];exact HF.o.few
 have d7:m≤12:=by rw [hm];exact HF.o.itf
 have HN:=O hn.symm;have HM:=O hm.symm;clear hn hm;go_wp2_with fail
 generalize w1.alloc (.cells #[.slice A xs.length c,.slice B (grown true zA).ix.length d] 26)=w2 at H ⊢
 generalize w1.heap.size=gb
 refine (ET HG.o _ (HE.o.below H.o)).mono ?_;rintro e w3⟨b3,A2,B2,Y,Z,ys,rfl,c5,E5⟩;rw [HN.o,HM.o];have N:=O (H.o.trans (b3.mono H.o.size));have a6:=O E5;have V:=O c5;have b9:ys.length=n:=by rw [← aD,V.o,HN.o]
 have a9:=O b9;clear b3 E5 c5 b9 H HG;have tO:=O (ah N.o N.o.size (o:=.cells #[.slice A2 n Y,.slice B2 m Z] 26));have a7:=O (a6.o.below (ah (Below.refl w3.heap.size w3) (aaJ _) (o:=.cells #[.slice A2 n Y,.slice B2 m Z] 26)));have WB:=O (aC.new w3 26 #[.slice A2 n Y,.slice B2 m Z]);have r:w3.heap.size < (w3.alloc (.cells #[.slice A2 n Y,.slice B2 m Z] 26)).heap.size:=by simp
 obtain⟨X,hX⟩:∃ X,X=bZ true zA:=⟨_,rfl⟩;rw [← hX] at Q d3 ⊢
 clear hX a6 N;go_wp2_with fail
 generalize w3.alloc (.cells #[.slice A2 n Y,.slice B2 m Z] 26)=w4 at tO a7 WB r ⊢
 generalize w3.heap.size=tb at WB r ⊢
 go_loopw [9] (fun iv wr=>∃ k:Nat,k≤n∧iv=.int .i64 k∧Hid (Below w4.heap.size w4 wr)) (fun i _=>n - (intOf i).toNat)
 case atStart=>exact⟨0,aaL _,rfl,O (Below.refl _ _)⟩
 case round =>
  obtain⟨wo,rfl⟩:∃ wo:World,wo=wr:=⟨_,rfl⟩;obtain⟨k,hk,rfl,HO⟩:=hrel;have Nw:=O (WB.o.below HO.o r);have U:=O (a7.o.below HO.o);have t0:=Nw.o.cell 0;by_cases b6:k < n
  ·obtain⟨x,I⟩:∃ x,ys[k]? = some x:=jD (by rw [a9.o];exact b6);have hN:T.nodes[k]? = some x.1:=by rw [← V.o];exact gP I
   obtain⟨D,d6,Ua,Kn⟩:=Q.o k x.1 hN
   have b1:SF T x.1.at_=((k:Int),0):=by
    have h1:ND T x.1.at_=(k:Int):=by
     refine zT ?_ hN (by simp);rw [aaR];intro y hy;obtain⟨j,hj,e⟩:=List.getElem_of_mem hy;rw [List.length_take] at hj
     rw [List.getElem_take] at e
     have d4:T.nodes[j]? = some y:=by rw [aaD (by omega),e]
     have h2:=(Q.o j y d4).at_
     have h3:gp j ≠ gp k:=fun h=>by
      have:=c7.o j k (by omega) (by rw [HN.o];exact b6) h
      omega
     rw [h2,D];simp;omega
    unfold SF;rw [if_neg (by rw [HF.o.check.1];simp),h1,if_neg (by omega)]
   obtain⟨q,hq⟩:∃ q,gp k=q:=⟨_,rfl⟩;rw [hq] at D d6 Ua Kn
   have u:=O b1;have C:=O fun (v:Value) (W:World) (l:Below w.heap.size w W) (hv:∃ A n c,v=.slice A n c)=>QC HF.o hN v W (fun w2 g=>d1.o w2 (l.trans (g.mono l.size))) hv
   obtain⟨b,o,hA,K⟩:=U.o.nodes (by rw [a9.o];omega);have c0:=K.c0 k x I;have c1:=K.c1 k x I;have b0:=K.c2 k x I;have c3:=K.c3 k x I;have c4:=K.c4 k x I;have l1:=K.lt;obtain⟨Ka,kc,b8,_,_⟩:=K.kid I;rw [b8] at c3
   subst hA;rw [D] at c4 u C
   obtain⟨M,hM⟩:∃ M,M=sP x.1:=⟨_,rfl⟩;rw [← hM] at Ua Kn C
   obtain⟨⟨kd,tx,nn,ks,at_⟩,xv⟩:=x;simp only at c0 c1 b0 c3 c4 C u
   obtain⟨J,b7⟩:∃ J,J=ks.length:=⟨_,rfl⟩;rw [← b7] at c3
   have c8:=O Ua;have c9:=O Kn;clear I hN D hq b1 K b8 hM Ua Kn b7;have y0:(0:Int)≤(k:Int):=by omega
   have y1:(k:Int) < (n:Int):=by omega
   have y2:decide ((q:Int) < 0)=false:=aaV (by omega);have y3:decide ((X.length:Int)≤(q:Int))=false:=aaV (by omega);go_upto_region 13 with (fail)
   have f:=O (aC.new wo 50 #[.int .u8 (kd:Int),.string (aM tx),.int .i64 nn,.slice Ka J kc,.int .i64 (q:Int)]);have lG:=O (ah HO.o HO.o.size (o:=.cells #[.int .u8 (kd:Int),.string (aM tx),.int .i64 nn,.slice Ka J kc,.int .i64 (q:Int)] 50));have P:=O (ah (Below.refl wo.heap.size wo) (aaJ _) (o:=.cells #[.int .u8 (kd:Int),.string (aM tx),.int .i64 nn,.slice Ka J kc,.int .i64 (q:Int)] 50));have a:=O (Nw.o.alloc (.cells #[.int .u8 (kd:Int),.string (aM tx),.int .i64 nn,.slice Ka J kc,.int .i64 (q:Int)] 50))
   generalize wo.alloc (.cells #[.int .u8 (kd:Int),.string (aM tx),.int .i64 nn,.slice Ka J kc,.int .i64 (q:Int)] 50)=w5 at f lG P a ⊢
   generalize wo.heap.size=xb at f ⊢
   have a8:=O (U.o.below P.o);have jO:=O (tO.o.trans (lG.o.mono tO.o.size));clear c0 c1 b0 c3 c4 l1 t0 Nw U P HO y2 y3;have t0:=a.o.cell 0;have t1:=a.o.cell 1;have E:=f.o.cell 4;have a5:=O fun W (l:Below w5.heap.size w5 W)=>MN HF.o Y Z n m (a8.o.below l) V.o HN.o HM.o
   go_region_held3 (fun t=>t.cell? ⟨tb,0,none⟩=some (.slice (some ⟨b,o,none⟩) n Y)∧t.cell? ⟨tb,1,none⟩=some (.slice B2 m Z)∧t.cell? ⟨xb,4,none⟩=some (.int .i64 (q:Int)))
    (first | go_keep|(go_split_ands;refine⟨?_,?_,?_⟩ <;> assumption))
    ((first
      | (go_at_call 29
         refine (a5.o _ (by (repeat (first|(with_reducible exact Below.refl _ _)|(with_reducible refine Below.drew ?_)));done)).mono ?_;rintro e w6⟨l,An,Bn,cn,dn,zs,rfl,hz,a1,c6,_⟩;have dA:=O (show Below w5.heap.size w5 w6 from Below.trans (by (repeat (first|(with_reducible exact Below.refl _ _)|(with_reducible refine Below.drew ?_)));done) l);have Xh:=O (a.o.below dA.o a.o.lt);have G:=O (f.o.below dA.o f.o.lt);have hc:=XE An Bn cn dn zs T.items (q:Int) w6 hz (by rw [a1];exact HF.o.check.2) (HE.o.below (jO.o.trans (dA.o.mono jO.o.size))) (by omega);rw [c6,HM.o,show (⟨aA zs,T.items⟩:Tr)=T by rw [a1],u.o] at hc
         have HC:=O hc;clear l hz a1 c6 hc t0 t1 E;have t0:=Xh.o.cell 0;have t1:=Xh.o.cell 1;have E:=G.o.cell 4)
      | (go_at_call 31
         refine HC.o.mono ?_;rintro e w7⟨rfl,l⟩;have uN:=O (dA.o.trans (l.mono dA.o.size));have Xi:=O (a.o.below uN.o a.o.lt);have F:=O (f.o.below uN.o f.o.lt);clear l t0 t1 E;have t0:=Xi.o.cell 0;have t1:=Xi.o.cell 1;have E:=F.o.cell 4)))
   all_goals
    have U0:=O (jO.o.trans (uN.o.mono jO.o.size));have a4:=O (lG.o.trans (uN.o.mono lG.o.size));clear t0 t1 E a Xh Xi G HC a5 u a8;have x0:=F.o.cell 0;have x1:=F.o.cell 1;have x2:=F.o.cell 2;have x3:=F.o.cell 3;have E:=F.o.cell 4;have y4:(q:Int)≤(X.length:Int):=by omega
    have y5:(0:Int)≤(q:Int):=by omega
    go_upto_region 14 with (fail)
    go_region_held3 (fun t=>t.cell? ⟨xb,0,none⟩=some (.int .u8 (kd:Int))∧t.cell? ⟨xb,1,none⟩=some (.string (aM tx))∧t.cell? ⟨xb,2,none⟩=some (.int .i64 nn)∧t.cell? ⟨xb,3,none⟩=some (.slice Ka J kc)∧t.cell? ⟨xb,4,none⟩=some (.int .i64 (q:Int)))
     (first | go_keep|(go_split_ands;refine⟨?_,?_,?_,?_,?_⟩ <;> assumption))
     ((first
       | (go_at_call 33
          refine (C.o _ _ (U0.o.trans (by (repeat (first|(with_reducible exact Below.refl _ _)|(with_reducible refine Below.drew ?_)));done)) ⟨_,_,_,rfl⟩).mono ?_;rintro e w8⟨rfl,l⟩;have a2:=O (show Below w7.heap.size w7 w8 from Below.trans (by (repeat (first|(with_reducible exact Below.refl _ _)|(with_reducible refine Below.drew ?_)));done) l);have N7:=O (F.o.below a2.o F.o.lt);clear l x0 x1 x2 x3 E;have x0:=N7.o.cell 0;have x1:=N7.o.cell 1;have x2:=N7.o.cell 2;have x3:=N7.o.cell 3;have E:=N7.o.cell 4)))
    all_goals
     have mt:=c9.o;have ml:M.length≤X.length - q:=by have:=c8.o;rw [List.length_drop] at this;exact this
     have m0:¬ X.length - q < M.length:=by omega
     have m1:(M.length:Int)≤((X.length - q:Nat):Int):=by omega
     have m2:decide (((X.length - q:Nat):Int) < (M.length:Int))=false:=aaV (by omega);have m3:(0:Int)≤(M.length:Int):=by omega
     have d0:=O (a4.o.trans (a2.o.mono a4.o.size));clear x0 x1 x2 x3 E;go_wp2_with fail
     first
      | exact⟨⟨k+1,by omega,by go_num,d0⟩,by simp [intOf];omega⟩
      | (trace_state;done)
  ·obtain rfl:k=n:=by omega
   have S:=O (tO.o.trans (HO.o.mono tO.o.size));go_wp2_with fail;refine (rV _ (HE.o.below S.o)).mono ?_;rintro e Qv⟨rfl,g⟩;have R:=O (S.o.trans (g.mono S.o.size));clear g;go_wp2_with fail;go_ret;exact⟨by first | rfl | simp,R.o⟩
end Go.Proofs.YthepmkjggfijoaaGreatDoor
