/-
  A part of the proof.
-/
import Derived.Test.YtalghggmkojblaaGreatDoorS26
set_option linter.all false
set_option maxRecDepth 100000
set_option maxHeartbeats 4000000
set_option linter.all false
namespace Go.Proofs.YtalghggmkojblaaGreatDoor
section
open Go.RowKit Mist
attribute [local go_sem] ak aN aV aF aj
section
variable {S:Sz} {B g n c f i j q b2 b3 b4 b6 h:Nat} {cs:Array Value} {w W:World} {A Bi:Option Addr} {nv iv pv:Value} {ps l:List Pz} {xs:List NV} {its:List Int} {x y:NV}
theorem X9 (H:Hid (PZ S B g w W (.slice A n c) iv pv ps))(X:CX w B A Bi n xs its)(K:KX w B g A n c iv xs its f i x)(hk:x.1.kind=42)(hf:0 < f){r:Nat}(hm1:x.1.kids.length=r+2)(F:PK w B g A n c iv xs its f r x)(hq:x.1.kids[r]? = some ((q:Nat):Int))(G:MC 84 w B g A n c iv ⟨aH xs,its⟩ f q)(E:KE w B g A n c iv xs its f x (r+1))(n0:-1000000≤x.1.n)(n1:x.1.n≤1000000)
  (hl:ps.length+(bQ ⟨aH xs,its⟩ (aQ ⟨aH xs,its⟩ f) i).length≤1000000) :
  Calls Tryz.prog 17 #[.pointer (some ⟨g,0,none⟩),.int .i64 i] W (lW S B g w (.slice A n c) iv (iL ps (bQ ⟨aH xs,its⟩ (aQ ⟨aH xs,its⟩ f) i))):=by
 have en:=Bz (T:=⟨aH xs,its⟩) (B:=aQ ⟨aH xs,its⟩ f) (i:=i) (by rw [bD its K.hx];exact hk)
 try rw [bD its K.hx] at en
 rw [en] at hl ⊢
 clear en;rw [hm1,show r+2 - 2=r by omega,show r+2 - 1=r+1 by omega] at hl ⊢
 obtain⟨U,hU⟩:∃ U,U=(if 0 < x.1.n then [lz [117,112,116,111] (-1),lz (Go.Lib.itoa x.1.n) (-1)] else ([]:List Pz)):=⟨_,rfl⟩;rw [← hU] at hl ⊢
 have HU:=O hU;clear hU;have hi:i < n:=by rw [← X.len];exact (amG.1 K.hx).1
 obtain⟨b,o,hA,hN⟩:=(X.at_ H.o).nodes (by have:=X.len;omega);have HB:=O hN.lt;obtain⟨P,kc,t,hkl,hki⟩:=X.kids H.o K.hx;obtain⟨m,hm⟩:∃ m,m=x.1.kids.length:=⟨_,rfl⟩;subst hA;have y0:(0:Int)≤(i:Int):=by omega
 have y1:(i:Int) < (n:Int):=by omega
 have hg:=H.o.blk.lt;have EB:=O (show kY x=#[.int .u8 42,.string (aG x.1.text),.int .i64 x.1.n,.slice P m kc,.int .i64 x.1.at_] from by unfold kY;rw [hk,t,hm];rfl);have jR:=yR i H;have L:=Uv W g i;have J:=O (Ut W g i);have M:=O hN;have xA:=O t;have uU:=O (show x.1.kind=42 from hk);have R:=O hl;have HX:=O X;have I:=O K;have HM:=O hm;have HF:=O F;have Y:=O hq;have HG:=O G;have HE:=O E;have Z:=O n0;have Hn1:=O n1;have V:=O hk;have ahB:=O hm1;have hbw:=HB.o;have ME:=O (show x.2=.slice P m kc from by rw [t,hm]);have Qp:=O hkl;clear H t hki hl X K hm hN F hq G E n0 n1;go_in
 go_upto_region 1 with (fail)
 generalize (W.alloc (.cells #[.pointer (some ⟨g,0,none⟩)] 54)).alloc (.cells #[.int .i64 (i:Nat)] 3)=w0 at jR L J ⊢
 have c0:w0.cell? ⟨g,0,none⟩=some (.slice (some ⟨b,o,none⟩) n c):=jR.o.blk.cell 0;obtain⟨d2,d3⟩:=kQ jR;have mP:=O L;have ug:g < w0.heap.size:=by omega
 have ub:b < w0.heap.size:=by omega
 have uW:W.heap.size < w0.heap.size:=by omega
 have Cv:W.heap.size+1 < w0.heap.size:=by omega
 clear L;have k0:w0.cell? ⟨b,o+i * 5,none⟩=some (.int .u8 42):=by have h:=(M.o.below J.o).c0 i x I.o.hx;rw [uU.o] at h;exact h
 have k1:w0.cell? ⟨b,o+i * 5+1,none⟩=some (.string (aG x.1.text)):=(M.o.below J.o).c1 i x I.o.hx;have k2:w0.cell? ⟨b,o+i * 5+2,none⟩=some (.int .i64 x.1.n):=(M.o.below J.o).c2 i x I.o.hx;have k4:w0.cell? ⟨b,o+i * 5+4,none⟩=some (.int .i64 x.1.at_):=(M.o.below J.o).c4 i x I.o.hx;have k3:w0.cell? ⟨b,o+i * 5+3,none⟩=some (.slice P m kc):=by rw [HM.o,← xA.o];exact (M.o.below J.o).c3 i x I.o.hx
 go_region
 have N:=Uu i #[.int .u8 42,.string (aG x.1.text),.int .i64 x.1.n,.slice P m kc,.int .i64 x.1.at_] mP.o jR;rw [mP.o]
 generalize (w0.alloc (.cells #[.int .u8 42,.string (aG x.1.text),.int .i64 x.1.n,.slice P m kc,.int .i64 x.1.at_] 56)).drew=k at N ⊢
 clear hbw c0 k0 k1 k2 k3 k4 d2 d3 jR uW Cv ug ub mP J M HB y0 y1;obtain⟨c2,c3,a,u,v⟩:=dB N;obtain⟨u0,u1,u2⟩:=xlt N;obtain⟨C,D⟩:=sJ N;have hmm:=@run_makeMap Tryz.prog;have i0:=SB k;have i1:=SC k;have i2:=SE k;have i3:=SF k;have i4:=SG k;have i5:=SH k;have i6:=SK k;have hlk:(Instr.lookup 97 (.map (some k.heap.size)) (.int .u8 42) false).run Tryz.prog (k.alloc (.map (iG (fT.take 7) 0).toArray 7))=.ok (.string (aG [102,117,110])) (k.alloc (.map (iG (fT.take 7) 0).toArray 7)):=Gg k 42 _ rfl;go_wp2_with fail;refine (Cy (O (N.o.alloc _)) [102,117,110] (i:Int) (by have:=R.o;simp [au] at this;omega)).mono ?_;rintro e w1⟨yK,rfl,H1⟩;clear hlk hmm i0 i1 i2 i3 i4 i5 i6 u0 u1 u2 c2 c3 a u v C D N;obtain⟨c2,c3,a,u,v⟩:=dB H1;obtain⟨C,D⟩:=sJ H1;go_wp2_with fail;refine (I6 H1 x.1.text (-1) (by simp) (by have:=R.o;simp [au] at this ⊢;omega)).mono ?_;rintro e w2⟨nC,rfl,Q⟩;clear c2 c3 a u v C D H1;obtain⟨c2,c3,a,u,v⟩:=dB Q;obtain⟨C,D⟩:=sJ Q
 have d:Calls Tryz.prog 52 #[.pointer (some ⟨g,0,none⟩),.int .i64 i,.agg (kY x)] w2 (lW (xS W.heap.size g i #[.int .u8 42,.string (aG x.1.text),.int .i64 x.1.n,.slice P m kc,.int .i64 x.1.at_] S) B g w (.slice (some ⟨b,o,none⟩) n c) iv (iL ps ([tz [102,117,110] (i:Int),lz x.1.text (-1)] ++ tz [40] (-1) :: (cZ false (ig ⟨aH xs,its⟩ (aQ ⟨aH xs,its⟩ f) i r) ++ tz [41] (-1) :: tz [58] (-1) :: (cZ true (dU ⟨aH xs,its⟩ (aQ ⟨aH xs,its⟩ f) i r) ++ (U ++ lz [61] (-1) :: cZ true (dU ⟨aH xs,its⟩ (aQ ⟨aH xs,its⟩ f) i (r+1)))))))):=by
  by_cases hs:0 < x.1.n
  ·have e:=HU.o;rw [if_pos hs] at e;have hL:=R.o;rw [e] at hL ⊢;exact agm Q (by simp) HX.o I.o V.o ahB.o hf HF.o Y.o HG.o HE.o Z.o Hn1.o hs (by simp [au] at hL ⊢;omega)
  ·have e:=HU.o;rw [if_neg hs] at e;have hL:=R.o;rw [e] at hL ⊢;exact agl Q (by simp) HX.o I.o V.o ahB.o hf HF.o Y.o HG.o HE.o Z.o Hn1.o hs (by simp [au] at hL ⊢;omega)
 rw [EB.o] at d
 have HFU:=O d;clear d;go_wp2_with fail;refine (HFU.o).mono ?_;rintro e w3⟨uY,rfl,H3⟩;clear c2 c3 a u v C D Q;obtain⟨c2,c3,a,u,v⟩:=dB H3;obtain⟨C,D⟩:=sJ H3;go_wp2_with fail;refine (uV H3 [59] (-1) (by simp) (by have:=R.o;simp [au] at this ⊢;omega)).mono ?_;rintro e w4⟨Fh,rfl,H4⟩;clear c2 c3 a u v C D H3;obtain⟨c2,c3,a,u,v⟩:=dB H4;obtain⟨C,D⟩:=sJ H4;go_wp2_with fail;go_end0
 exact⟨_,rfl,O (by have h:=H4.o.xe;simpa [List.append_assoc,ig,tz,lz] using h)⟩
theorem ako {m a:Nat}{fv:Value}{Q:Ending→World→Prop}(h:m=a)(b:Calls Tryz.prog 55 #[.pointer (some ⟨g,0,none⟩),.int .i64 (a:Nat),fv] W Q):Calls Tryz.prog 55 #[.pointer (some ⟨g,0,none⟩),.int .i64 (m:Nat),fv] W Q:=by
 rw [h];exact b
theorem ki2 (H:Hid (PZ S B g w W (.slice A n c) iv pv ps))(X:CX w B A Bi n xs its)(K:KX w B g A n c iv xs its f i x)(h2:(b2,54,#[.pointer (some ⟨g,0,none⟩)]) ∈ S)(h3:(b3,3,#[.int .i64 (i:Nat)]) ∈ S)
  (k:j < x.1.kids.length) (E:KE w B g A n c iv xs its f x j) (a:ps.length+(dU ⟨aH xs,its⟩ (aQ ⟨aH xs,its⟩ f) i j).length≤1000000) :
  Calls Tryz.prog 56 #[.int .i64 j,.pointer (some ⟨b2,0,none⟩),.pointer (some ⟨b3,0,none⟩)] W (lW S B g w (.slice A n c) iv (iL ps (dU ⟨aH xs,its⟩ (aQ ⟨aH xs,its⟩ f) i j))):=by
 have c2:=(H.o.kp _ h2).1.cell 0;have c3:=(H.o.kp _ h3).1.cell 0;simp only at c2 c3
 have b:=O (kd1 H X K k E a);clear a E K X;go_in
 go_wp2_with fail;refine b.o.mono ?_;rintro e r⟨m,rfl,d⟩;go_wp2_with fail;go_end0
 exact⟨m,rfl,d⟩
theorem X8 (H:Hid (PZ S B g w W (.slice A n c) iv pv ps))(X:CX w B A Bi n xs its)(K:KX w B g A n c iv xs its f i x)(hk:x.1.kind=46)(hf:0 < f){qn:Nat}(U:x.1.n=((qn+1:Nat):Int))(hqn:qn < 8)(E:∀ j,j < x.1.kids.length→KE w B g A n c iv xs its f x j)
  (R:ps.length+(bQ ⟨aH xs,its⟩ (aQ ⟨aH xs,its⟩ f) i).length≤1000000) :
  Calls Tryz.prog 17 #[.pointer (some ⟨g,0,none⟩),.int .i64 i] W (lW S B g w (.slice A n c) iv (iL ps (bQ ⟨aH xs,its⟩ (aQ ⟨aH xs,its⟩ f) i))):=by
 have en:=BG (T:=⟨aH xs,its⟩) (B:=aQ ⟨aH xs,its⟩ f) (i:=i) (by rw [bD its K.hx];exact hk)
 try rw [bD its K.hx] at en
 rw [en] at R ⊢
 clear en;have Y:x.1.n.toNat=qn+1:=by rw [U];rfl
 rw [Y] at R ⊢
 have ws:wrap64 (x.1.n - 1)=(qn:Int):=by rw [U];unfold wrap64;omega
 have wt:IntKind.i64.wrap (x.1.n - 1)=(qn:Int):=by rw [U,IntWalk.i64_in _ (by omega)];omega
 obtain⟨QT,G⟩:∃ QT,QT=lJ.getD (qn+1) []:=⟨_,rfl⟩;rw [← G] at R ⊢
 have HQT:=O G;clear G Y;have hi:i < n:=by rw [← X.len];exact (amG.1 K.hx).1
 obtain⟨b,o,hA,hN⟩:=(X.at_ H.o).nodes (by have:=X.len;omega);have HB:=O hN.lt;obtain⟨P,kc,u,hkl,hki⟩:=X.kids H.o K.hx;obtain⟨m,hm⟩:∃ m,m=x.1.kids.length:=⟨_,rfl⟩;subst hA;have y0:(0:Int)≤(i:Int):=by omega
 have y1:(i:Int) < (n:Int):=by omega
 have hg:=H.o.blk.lt;have EB:=O (show kY x=#[.int .u8 46,.string (aG x.1.text),.int .i64 x.1.n,.slice P m kc,.int .i64 x.1.at_] from by unfold kY;rw [hk,u,hm];rfl);have Z:=yR i H;have I:=Uv W g i;have F:=O (Ut W g i);have M:=O hN;have xA:=O u;have uU:=O (show x.1.kind=46 from hk);have HL:=O R;have HX:=O X;have D:=O K;have HM:=O hm;have HE:=O E;have Hhn:=O U;have hbw:=HB.o;have ME:=O (show x.2=.slice P m kc from by rw [u,hm]);have Qp:=O hkl;clear H u hki R X K hm hN E U;go_in
 go_upto_region 1 with (fail)
 generalize (W.alloc (.cells #[.pointer (some ⟨g,0,none⟩)] 54)).alloc (.cells #[.int .i64 (i:Nat)] 3)=w0 at Z I F ⊢
 have c0:w0.cell? ⟨g,0,none⟩=some (.slice (some ⟨b,o,none⟩) n c):=Z.o.blk.cell 0;obtain⟨d2,d3⟩:=kQ Z;have mP:=O I;have ug:g < w0.heap.size:=by omega
 have ub:b < w0.heap.size:=by omega
 have uW:W.heap.size < w0.heap.size:=by omega
 have Cv:W.heap.size+1 < w0.heap.size:=by omega
 clear I;have k0:w0.cell? ⟨b,o+i * 5,none⟩=some (.int .u8 46):=by have h:=(M.o.below F.o).c0 i x D.o.hx;rw [uU.o] at h;exact h
 have k1:w0.cell? ⟨b,o+i * 5+1,none⟩=some (.string (aG x.1.text)):=(M.o.below F.o).c1 i x D.o.hx;have k2:w0.cell? ⟨b,o+i * 5+2,none⟩=some (.int .i64 x.1.n):=(M.o.below F.o).c2 i x D.o.hx;have k4:w0.cell? ⟨b,o+i * 5+4,none⟩=some (.int .i64 x.1.at_):=(M.o.below F.o).c4 i x D.o.hx;have k3:w0.cell? ⟨b,o+i * 5+3,none⟩=some (.slice P m kc):=by rw [HM.o,← xA.o];exact (M.o.below F.o).c3 i x D.o.hx
 go_region
 have N:=Uu i #[.int .u8 46,.string (aG x.1.text),.int .i64 x.1.n,.slice P m kc,.int .i64 x.1.at_] mP.o Z;rw [mP.o]
 generalize (w0.alloc (.cells #[.int .u8 46,.string (aG x.1.text),.int .i64 x.1.n,.slice P m kc,.int .i64 x.1.at_] 56)).drew=d at N ⊢
 clear hbw c0 k0 k1 k2 k3 k4 d2 d3 Z uW Cv ug ub mP F M HB y0 y1;obtain⟨c2,c3,a,k,t⟩:=dB N;obtain⟨u0,u1,u2⟩:=xlt N;obtain⟨v,C⟩:=sJ N;have hmm:=@run_makeMap Tryz.prog;have i0:=SB d;have i1:=SC d;have i2:=SE d;have i3:=SF d;have i4:=SG d;have i5:=SH d;have i6:=SK d;have hlk:(Instr.lookup 97 (.map (some d.heap.size)) (.int .u8 46) false).run Tryz.prog (d.alloc (.map (iG (fT.take 7) 0).toArray 7))=.ok (.string (aG [97,115,107])) (d.alloc (.map (iG (fT.take 7) 0).toArray 7)):=Gg d 46 _ rfl;go_wp2_with fail;refine (Cy (O (N.o.alloc _)) [97,115,107] (i:Int) (by have:=HL.o;simp [au] at this;omega)).mono ?_;rintro e w1⟨yK,rfl,J⟩;clear hlk hmm i0 i1 i2 i3 i4 i5 i6 u0 u1 u2 c2 c3 a k t v C N;obtain⟨c2,c3,a,k,t⟩:=dB J;obtain⟨v,C⟩:=sJ J;have Q:=O fun (W2:World) (hb:Below w1.heap.size w1 W2)=>Yf HX.o.env (J.o.MF.mono HX.o.b) (Nat.le_trans HX.o.b J.o.lw) hqn hb
 have y0:(0:Int)≤(qn:Int):=by omega
 have y1:(qn:Int) < ((8:Nat):Int):=by omega
 have y2:(qn:Int) < 8:=by omega
 go_upto_region 24 with (fail)
 go_region_with ((first
   | (go_at_call 54
      refine (Q.o _ (by (repeat (first|(with_reducible exact Below.refl _ _)|(with_reducible refine Below.drew ?_)));done)).mono ?_;rintro e wA⟨hqb,rfl,V,hb⟩;rw [← HQT.o] at V
      have L:=O (J.o.below hb);clear c2 c3 a k t v C hb;obtain⟨c2,c3,a,k,t⟩:=dB L)
   | (go_at_call 46
      refine (I6 (S:=xS W.heap.size g i #[.int .u8 46,.string (aG x.1.text),.int .i64 x.1.n,.slice P m kc,.int .i64 x.1.at_] S) (by first | exact L | exact O L.o.drew | exact O L.o.drew.drew | exact O (L.o.drewN _)) QT (-1) (by simp) (by have:=HL.o;simp [au] at this ⊢;omega)).mono ?_;rintro e w2⟨nC,rfl,H2⟩;clear c2 c3 a k t V;obtain⟨c2,c3,a,k,t⟩:=dB H2)))
 all_goals
  clear L J Q y0 y1 y2 ws wt;obtain⟨v,C⟩:=sJ H2;go_wp2_with fail;refine (Va (r:=ig ⟨aH xs,its⟩ (aQ ⟨aH xs,its⟩ f) i x.1.kids.length) (ako HM.o (ls1 H2 56 #[.pointer (some ⟨W.heap.size,0,none⟩),.pointer (some ⟨W.heap.size+1,0,none⟩)] (dU ⟨aH xs,its⟩ (aQ ⟨aH xs,its⟩ f) i) x.1.kids.length (D.o.ne hf 0 (.inr rfl)) Qp.o (by have:=HL.o;rw [d_];simp [au,ig] at this ⊢;omega) (fun j W'=>by kernel_rfl) (fun j W' pv' qs hj hq h=>ki2 h HX.o D.o (Ja _ _ _ _ _) (Mq _ _ _ _ _) hj (HE.o j hj) hq))) (by simp)).mono ?_;rintro e w3⟨uY,rfl,H3⟩;clear c2 c3 a k t v C H2;obtain⟨c2,c3,a,k,t⟩:=dB H3;obtain⟨v,C⟩:=sJ H3;go_wp2_with fail;refine (uV H3 [59] (-1) (by simp) (by have:=HL.o;simp [au] at this ⊢;omega)).mono ?_;rintro e w4⟨Fh,rfl,H4⟩;clear c2 c3 a k t v C H3;obtain⟨c2,c3,a,k,t⟩:=dB H4;obtain⟨v,C⟩:=sJ H4;go_wp2_with fail;go_end0
  exact⟨_,rfl,O (by have h:=H4.o.xe;simpa [List.append_assoc,ig,tz,lz] using h)⟩
end
end
set_option linter.all false
section
open Go.RowKit Mist
theorem X7 {B g n c:Nat}{w:World}{A Bi:Option Addr}{iv:Value}{xs:List NV}{its:List Int}(X:CX w B A Bi n xs its)(a:Ru ⟨aH xs,its⟩)(f i:Nat)(hif:i+1 < f)(d:i < n)(ht:fM (nd (⟨aH xs,its⟩:Tr) i).kind=true):MC 17 w B g A n c iv ⟨aH xs,its⟩ f i:=by
 obtain⟨f,rfl⟩:∃ f',f=f'+1:=⟨f - 1,by omega⟩;have R:(⟨aH xs,its⟩:Tr).nodes.length=n:=by rw [← X.len];simp [aH]
 obtain⟨x,hx⟩:=nE (xs:=xs) (i:=i) (by rw [X.len];exact d);have F:=bD its hx;have Q:=rtZ (a.right i (by rw [R];exact d));have hN:=a.num i (by rw [R];exact d);rw [F] at hN
 have K:KX w B g A n c iv xs its f i x:=Ru.kx X a hx (by omega);have G:0 < f:=by omega
 have kid:∀ j,j < x.1.kids.length→∃ q y,x.1.kids[j]? = some ((q:Nat):Int)∧xs[q]? = some y∧q < i∧q < n∧ku x.1 j y.1.kind=true∧(y.1.kind=1→y.1.n < 0→x.1.kind=40):=by
  intro j C;obtain⟨q,b,e2⟩:=a.kid (i:=i) (j:=j) (by rw [R];exact d) (by rw [F];exact C);rw [F] at b
  obtain⟨y,hy⟩:=nE (xs:=xs) (i:=q) (by rw [X.len];omega);have h1:=Q.kid j (by rw [F];exact C);have h2:=Q.neg j (by rw [F];exact C);rw [F,amJ,b] at h1 h2
  have h1:ku x.1 j (nd (⟨aH xs,its⟩:Tr) q).kind=true:=h1;have h2:(nd (⟨aH xs,its⟩:Tr) q).kind=1→(nd (⟨aH xs,its⟩:Tr) q).n < 0→x.1.kind=40:=h2;rw [bD its hy] at h1 h2
  exact⟨q,y,b,hy,e2,by omega,h1,h2⟩
 have EX:∀ (j q:Nat) (y:NV),x.1.kids[j]? = some ((q:Nat):Int)→xs[q]? = some y→iT y.1.kind=true→(y.1.kind=1→y.1.n < 0→x.1.kind=40)→x.1.kind ≠ 40→q < i→XC w B g A n c iv ⟨aH xs,its⟩ f q:=fun j q y b hy he h2 xU hq =>
  aaO X a f q (by omega) (by omega) (by rw [bD its hy];exact he) (fun k=>by
   rw [bD its hy] at k ⊢
   rcases Int.lt_or_le y.1.n 0 with h5 | h5
   ·exact absurd (h2 k h5) xU
   ·exact h5)
 intro S W pv ps H v;rw [show aQ ⟨aH xs,its⟩ (f+1) i=bQ ⟨aH xs,its⟩ (aQ ⟨aH xs,its⟩ f) i from rfl] at v ⊢
 have I:=Q.many;have tu:=Q.num;rw [F] at ht I tu
 have V:(x.1.kind=43∨x.1.kind=44∨x.1.kind=46)→∀ j,j < x.1.kids.length→KE w B g A n c iv xs its f x j:=by
  intro hk j C q e;obtain⟨D,y,b,hy,h1,h2,h3,h4⟩:=kid j C;rw [e] at b
  injection b with b
  have:q=D:=by omega
  subst this;refine EX j q y e hy ?_ h4 (by omega) h1;unfold ku at h3
  rwa [if_neg (by omega),if_neg (by omega),if_neg (by omega),if_neg (by omega),if_neg (by omega)] at h3
 simp [fM] at ht
 rcases (by omega:x.1.kind=40∨x.1.kind=41∨x.1.kind=42∨x.1.kind=43∨x.1.kind=44∨x.1.kind=45∨x.1.kind=46) with k | k | k | k | k | k | k
 ·have h2:=uQ (by omega) _ k I;obtain⟨q,y,b,hy,a1,P,u,a4⟩:=kid 0 (by omega);obtain⟨r,z,J,T,b1,b2,b3,b4⟩:=kid 1 (by omega)
  have num:∀ {q:Nat} {y:NV},xs[q]? = some y→y.1.kind=1→-9999≤y.1.n∧y.1.n≤9999:=fun {q y} hy hk=>by
   have:=(rtZ (a.right q (by rw [R,← X.len];exact (amG.1 hy).1))).num
   rw [bD its hy] at this
   exact aen hk this
  have U:∀ {j t:Nat},ku x.1 j t=true→t=1:=fun {j t} h=>by
   unfold ku at h
   rw [if_neg (by omega),if_neg (by omega),if_neg (by omega),if_pos k] at h
   simpa using h
  exact LQ H X K k G h2 b hy J T ⟨by omega,by omega⟩ ⟨U u,U b3⟩ (num hy (U u)) (num T (U b3)) v
 ·refine Tz H X K k G (afE (.inr (.inr rfl)) _ k I) (fun j q C e=>?_) v;obtain⟨D,y,b,hy,a1,P,u,a4⟩:=kid j C;rw [e] at b
  injection b with b
  have:q=D:=by omega
  subst this;refine JY X a f q (by omega) P ?_;rw [bD its hy];unfold ku at u
  rw [if_neg (by omega),if_pos k] at u
  simpa using u
 ·have h2:=Te _ k I;obtain⟨M,L⟩:∃ m,x.1.kids.length=m+2:=⟨x.1.kids.length - 2,by omega⟩;have h8:=hN.fn k;obtain⟨q,y,b,hy,a1,P,u,a4⟩:=kid M (by omega)
  have Z:∀ {j t:Nat},ku x.1 j t=true→(if j+1=M+2 then iT t else if j+2=M+2 then kg t else decide (t=34))=true:=fun {j t} h=>by
   unfold ku at h
   rw [if_neg (by omega),if_neg (by omega),if_neg (by omega),if_neg (by omega),if_pos k,L] at h
   exact h
  have t1:=Z u;rw [if_neg (by omega),if_pos rfl] at t1
  refine X9 H X K k G L (fun j q C e=>?_) b (OM X a f q (by omega) P (by rw [bD its hy];exact t1)) (fun D e=>?_) (by omega) (by omega) v
  ·obtain⟨D,y',E,Y,b1,b2,b3,b4⟩:=kid j (by omega);rw [e] at E
   injection E with E
   have:q=D:=by omega
   subst this;have N:=Z b3;rw [if_neg (by omega),if_neg (by omega)] at N
   exact JY X a f q (by omega) b2 (by rw [bD its Y];simpa using N)
  ·obtain⟨r,z,J,T,b1,b2,b3,b4⟩:=kid (M+1) (by omega);rw [e] at J
   injection J with J
   have:D=r:=by omega
   subst this;have N:=Z b3;rw [if_pos rfl] at N
   exact EX (M+1) D z e T N b4 (by omega) b1
 ·exact X_ H X K k G (many1 (by decide) _ k I) (V (by omega)) v
 ·exact I4 H X K k G (many1 (by decide) _ k I) (V (by omega)) v
 ·exact I5 H X K k G v
 ·have h8:=abZ k tu;exact X8 H X K k G (qn:=(x.1.n - 1).toNat) (by omega) (by omega) (V (by omega)) v
end
section
open Go.RowKit Mist
attribute [local go_sem] ak aN aV aF aj
structure yV (T n:Nat):Prop where
 lies:liesAt Tryz.prog Tryz.prog.depth T (n / Tryz.prog.cellsOf T) 0 59 1=true
 ne:T ≠ 5
def wZ (T B g:Nat)(p:Value)(rest:List Value)(bs:Bs)(w:World):Prop :=
 B≤g∧∃ v,w.heap[g]? = some (.cells (p :: v :: rest).toArray T (0,0))∧w.ownsRow B 5 1 v bs.length (Lib.byteCells bs)∧v.ownBlock ≠ some g
def Cw (T B g:Nat)(rest:List Value)(bs:Bs)(w:World):Prop :=
 wZ T B g (.pointer none) rest bs w∨wZ T B g (.pointer (some ⟨g,0,none⟩)) rest bs w
theorem zJ:(Tryz.prog.info? 59).map (·.size)=some 2:=by kernel_rfl
theorem Jk:(Tryz.prog.info? 5).map (fun i=>(i.zero,i.size,i.bytes))=some (some (.int .u8 0),1,1):=by kernel_rfl
theorem RB:Tryz.prog.cellsOf 5=1:=by kernel_rfl
theorem Cw.any {T B g:Nat}{rest:List Value}{a:Bs}{w:World}(h:Cw T B g rest a w):∃ p,wZ T B g p rest a w:=by
 rcases h with h | h
 ·exact⟨_,h⟩
 ·exact⟨_,h⟩
theorem wZ.lt {T B g:Nat}{p:Value}{rest:List Value}{b:Bs}{w:World}(h:wZ T B g p rest b w):g < w.heap.size:=by
 obtain⟨_,v,d,_⟩:=h;rcases Nat.lt_or_ge g w.heap.size with a | a
 ·exact a
 ·simp [Array.getElem?_eq_none a] at d
theorem wZ.used {T B g:Nat}{p:Value}{rest:List Value}{d:Bs}{w:World}(h:wZ T B g p rest d w)(q:Value):wZ T B g q rest d (w.setCell ⟨g,0,none⟩ q):=by
 obtain⟨m,v,r,b,a⟩:=h
 refine⟨m,v,?_,?_,a⟩
 ·simp [World.setCell,Array.getElem?_modify,r]
 ·refine b.kept (row:=some g) ⟨rfl,rfl,rfl,by simp [World.setCell],fun k _ t=>Below.heap_setCell _ _ _ _ (fun e=>t (by simp [e]))⟩ ?_;exact Or.inr a
theorem wZ.put {T B g:Nat}{p v m:Value}{rest:List Value}{bs':Bs}{w:World}(t:B≤g)(r:w.heap[g]? = some (.cells (p :: v :: rest).toArray T (0,0)))(a:w.ownsRow B 5 1 m bs'.length (Lib.byteCells bs'))(d:T ≠ 5) :
  wZ T B g p rest bs' (w.setCell ⟨g,1,none⟩ m):=by
 have b:=Lib.ownBlock_ne a r d
 refine⟨t,m,?_,?_,b⟩
 ·simp [World.setCell,Array.getElem?_modify,r]
 ·exact a.kept (row:=some g) ⟨rfl,rfl,rfl,by simp [World.setCell],fun k _ u=>Below.heap_setCell _ _ _ _ (fun e=>u (by simp [e]))⟩ (Or.inr b)
theorem wZ.below {T B g:Nat}{p:Value}{rest:List Value}{k:Bs}{w r:World}(h:wZ T B g p rest k w)(m:Below w.heap.size w r):wZ T B g p rest k r:=by
 have d:=h.lt;obtain⟨t,v,b,a,e⟩:=h;exact⟨t,v,(m.block g d).trans b,own_below a m,e⟩
theorem Cw.below {T B g:Nat}{rest:List Value}{a:Bs}{w d:World}(h:Cw T B g rest a w)(b:Below w.heap.size w d):Cw T B g rest a d:=by
 rcases h with h | h
 ·exact .inl (h.below b)
 ·exact .inr (h.below b)
theorem Cw.lt {T B g:Nat}{rest:List Value}{a:Bs}{w:World}(h:Cw T B g rest a w):g < w.heap.size:=by
 obtain⟨p,h⟩:=h.any;exact h.lt
theorem Cw.fresh (T:Nat)(rest:List Value)(w:World):Cw T w.heap.size w.heap.size rest [] (w.alloc (.cells (.pointer none :: .slice none 0 0 :: rest).toArray T)) :=
 Or.inl ⟨amL _,.slice none 0 0,heap_alloc_new w _,World.ownsRow_nil _ _ _ _,by simp [Value.ownBlock]⟩
structure lC (g:Nat) (w w':World):Prop where
 size:w.heap.size≤w'.heap.size
 block:∀ k,k < w.heap.size→k ≠ g→(∀ cs fr,w.heap[k]? ≠ some (.cells cs 5 fr))→w'.heap[k]? = w.heap[k]?
theorem lC.refl (g:Nat)(w:World):lC g w w:=⟨amL _,fun _ _ _ _=>rfl⟩
theorem lC.trans {g:Nat}{a b c:World}(h:lC g a b)(k:lC g b c):lC g a c :=
 ⟨Nat.le_trans h.size k.size,fun i hi d m=>(k.block i (amY hi h.size) d (fun cs fr e=>m cs fr ((h.block i hi d m).symm.trans e))).trans (h.block i hi d m)⟩
theorem lC.of_below {g:Nat}{w a:World}(h:Below w.heap.size w a):lC g w a:=⟨h.size,fun k b _ _=>h.block k b⟩
theorem lC.set {g:Nat}{a w:World}(h:lC g a w)(o:Nat)(u:Value):lC g a (w.setCell ⟨g,o,none⟩ u) :=
 h.trans ⟨by simp [World.setCell],fun k _ b _=>Below.heap_setCell _ _ _ _ b⟩
theorem lC.cell {g k:Nat}{cs:Array Value}{T:TypeId}{fr:Nat × Nat}{w b:World}(h:lC g w b)(a:w.heap[k]? = some (.cells cs T fr))(r:k ≠ g)(m:T ≠ 5):b.heap[k]? = some (.cells cs T fr):=by
 rw [h.block k (amI.1 a).1 r,a];intro cs' d e;rw [a] at e
 simp only [Option.some.injEq,Obj.cells.injEq] at e
 exact m e.2.1
theorem FT (g:Nat)(w:World)(h0:w.cell? ⟨g,0,none⟩=some (.pointer (some ⟨g,0,none⟩))) :
  Calls Tryz.prog 57 #[.pointer (some ⟨g,0,none⟩)] w fun e b=>e=.returned (.tuple #[])∧w=b:=by
 obtain⟨j,a,_⟩:=Option.map_eq_some_iff.1 zJ;go_in
 go_wp2;rw [Lib.run_neq_ptr_same w _ Tryz.underlying57 a];go_wp2;go_end0
 exact⟨rfl,rfl⟩
theorem Ey (T n g:Nat)(k:yV T n)(w:World)(h0:w.cell? ⟨g,0,none⟩=some (.pointer none))(a:w.shape? g=some (T,n))(r:0 < n)(m:w.frozen? ⟨g,0,none⟩=false) :
  Calls Tryz.prog 57 #[.pointer (some ⟨g,0,none⟩)] w fun e t=>e=.returned (.tuple #[])∧w.setCell ⟨g,0,none⟩ (.pointer (some ⟨g,0,none⟩))=t:=by
 obtain⟨j,d,b⟩:=Option.map_eq_some_iff.1 zJ;go_in
 go_wp2;rw [Lib.run_to_unsafe w ⟨g,0,none⟩ Tryz.underlying57 Tryz.underlying142 d (by rw [b];decide) a r];simp only [Result.andThen];rw [Oper.upon_value];go_wp2;rw [run_callFunc_extern Tryz.func91 (by kernel_rfl) (by kernel_rfl) (by kernel_rfl) (e:=Extern.AbiNoEscape.same) (by kernel_rfl)];rw [Lib.run_noEscape];simp only [Result.andThen];rw [Oper.upon_value];go_wp2;rw [Lib.run_from_unsafe w ⟨g,0,none⟩ Tryz.underlying142 Tryz.underlying57 d a k.lies];simp only [Result.andThen];rw [Oper.upon_value];go_wp2;go_end0
 exact⟨rfl,rfl⟩
theorem xP (T n B g:Nat)(m:yV T n)(rest:List Value)(d:Bs)(w:World)(h:Cw T B g rest d w)(r:n=rest.length+2) :
  Calls Tryz.prog 57 #[.pointer (some ⟨g,0,none⟩)] w fun e b=>e=.returned (.tuple #[])∧wZ T B g (.pointer (some ⟨g,0,none⟩)) rest d b∧Below B w b∧lC g w b:=by
 rcases h with h | h
 ·obtain⟨k,v,a,_⟩:=id h;refine (Ey T n g m w (by rw [Lib.cell_of_heap a];rfl) (by simp [World.shape?,a,r]) (by omega) (Lib.frozen_of_heap a 0)).mono ?_;rintro e b ⟨rfl,rfl⟩;exact⟨rfl,h.used _,(Below.refl _ _).setCell (p:=⟨g,0,none⟩) k _,(lC.refl _ _).set _ _⟩
 ·obtain⟨k,v,a,_⟩:=id h;refine (FT g w (by rw [Lib.cell_of_heap a];rfl)).mono ?_;rintro e b ⟨rfl,rfl⟩;exact⟨rfl,h,Below.refl _ _,lC.refl _ _⟩
theorem Mc (s:Bs):Lib.strCells (aG s)=Lib.byteCells s:=rfl
theorem jm (T n B g:Nat)(R:yV T n)(rest:List Value)(D s:Bs)(w:World)(h:Cw T B g rest D w)(u:n=rest.length+2)(U:D.length+s.length≤1000000000)(Z:B≤w.heap.size) :
  Calls Tryz.prog 20 #[.pointer (some ⟨g,0,none⟩),.string (aG s)] w fun e N =>
   e=.returned (.tuple #[.int .i64 s.length,.nilIface])∧Cw T B g rest (D ++ s) N∧Below B w N∧lC g w N:=by
 obtain⟨i0,hi,K,L,M⟩:=info_parts Jk;go_in
 go_wp2_with (go_at_call 57;refine (xP T n B g R rest D _ h u).mono ?_)
 rintro e w1⟨rfl,h1,t,J⟩;have H:=h1.lt;obtain⟨Q,v,r,d,I⟩:=h1;have X:w1.cell? ⟨g,0,none⟩=some (.pointer (some ⟨g,0,none⟩)):=by rw [Lib.cell_of_heap r];rfl
 have c1:w1.cell? ⟨g,1,none⟩=some v:=by rw [Lib.cell_of_heap r];rfl
 have HN:=O u;clear u;go_wp2_with (at_builtin;refine Lib.wpList_append_own_string _ rfl _ _ 22 9 rfl B 5 i0 Tryz.underlying22 Tryz.underlying9 hi K L M _ _ _ rfl d (aG s) rfl ?c3 ?c4 ?c5 ?_)
 case c3=>rw [aN];unfold maxLen;omega
 case c4=>rw [aN];omega
 case c5=>have:=t.size;omega
 intro v' F b a _
 have E:F.heap[g]? = some (.cells (.pointer (some ⟨g,0,none⟩) :: v :: rest).toArray T (0,0)):=by
  rw [a.block g H (fun e=>I e.symm)];exact r
 have m:=O E;clear E;have d0:F.cell? ⟨g,0,none⟩=some (.pointer (some ⟨g,0,none⟩)):=by rw [Lib.cell_of_heap m.o];rfl
 have d1:F.cell? ⟨g,1,none⟩=some v:=by rw [Lib.cell_of_heap m.o];rfl
 have f1:F.frozen? ⟨g,1,none⟩=false:=Lib.frozen_of_heap m.o 1;obtain⟨ao,cap,rfl⟩:=dA b;clear X c1 r;have V:=O b;clear b;have C:=O d;clear d;go_wp2;go_ret2
 refine⟨rfl,.inr ?_,?_,?_⟩
 ·refine wZ.put Q m.o (bs':=D ++ s) ?_ R.ne
  have:=V.o
  rw [Mc,← Lib.byteCells_append] at this
  rw [amQ];exact this
 ·exact (t.grown a (by have:=t.size;omega) (fun k G=>(C.o.lt k G).1)).setCell (p:=⟨g,1,none⟩) Q _
 ·refine (J.trans ⟨a.size,fun k G _ u=>a.block k G (fun e=>?_)⟩).set 1 _;rcases C.o.2 with ⟨hv,_⟩ | ⟨q,P,Y,hv,_,hq,_⟩
  ·rw [hv] at e;simp [Value.ownBlock] at e
  ·rw [hv] at e;simp [Value.ownBlock] at e
   rw [e] at u;exact u _ _ hq
theorem unsafeString_none (W:World)(q:Option Addr):(Builtin.unsafeString_ #[110,3] 9 #[.pointer q,.int .i64 0]).run Tryz.prog W=.ok (.string .empty) W :=
 Lib.run_unsafeString_none W _ _ _ q
theorem uH (T B g:Nat)(rest:List Value)(m:Bs)(w:World)(h:Cw T B g rest m w)(I:B≤w.heap.size) :
  Calls Tryz.prog 23 #[.pointer (some ⟨g,0,none⟩)] w fun e U=>e=.returned (.string (aG m))∧Below B w U:=by
 have L:=h.lt;obtain⟨p,V,v,d,b,Q⟩:=h.any;clear h;have N:=O d;have a:w.drew.heap[g]? = some (.cells (p :: v :: rest).toArray T (0,0)):=d;rcases b.2 with ⟨rfl,h0⟩ | ⟨k,cap,t,rfl,M,G,H,K,F,r⟩
 ·have J:m=[]:=List.eq_nil_of_length_eq_zero h0;subst J;have E:=unsafeString_none;have c1:w.drew.cell? ⟨g,1,none⟩=some (.slice none 0 0):=by rw [Lib.cell_of_heap a];rfl
  have u:(Builtin.unsafeSliceData_ #[22] 110 #[.slice none 0 0]).run Tryz.prog w.drew=.ok (.pointer none) w.drew:=rfl;clear d a b;go_in
  go_wp2;go_region
  all_goals (go_wp2;go_ret;exact⟨rfl,Below.drew (Below.refl B w)⟩)
 ·by_cases h0:m=[]
  ·subst h0;have E:=unsafeString_none;have c1:w.drew.cell? ⟨g,1,none⟩=some (.slice (some ⟨k,0,none⟩) 0 cap):=by rw [Lib.cell_of_heap a];rfl
   by_cases C:cap=0
   ·subst C
    have u:(Builtin.unsafeSliceData_ #[22] 110 #[.slice (some ⟨k,0,none⟩) 0 0]).run Tryz.prog w.drew=.ok (.pointer (some ⟨w.drew.heap.size,0,none⟩)) (w.drew.alloc (.view ⟨k,0,none⟩ 5)) :=
     Lib.run_unsafeSliceData_zero w.drew _ _ 5 Tryz.underlying110 ⟨k,0,none⟩ 0 (5,t.size) (by have D:w.drew.heap[k]? = some (.cells t 5 (0,0)):=G;simp [World.shape?,D])
    have c2:(w.drew.alloc (.view ⟨k,0,none⟩ 5)).cell? ⟨g,1,none⟩=some (.slice (some ⟨k,0,none⟩) 0 0):=by
     have:(w.drew.alloc (.view ⟨k,0,none⟩ 5)).heap[g]? = _:=(Lib.alloc_old w.drew _ g L).trans a
     rw [Lib.cell_of_heap this];rfl
    have c3:(w.alloc (.view ⟨k,0,none⟩ 5)).drew.cell? ⟨g,1,none⟩=some (.slice (some ⟨k,0,none⟩) 0 0):=c2;have c4:w.cell? ⟨g,1,none⟩=some (.slice (some ⟨k,0,none⟩) 0 0):=c1;clear d a b G;go_in
    go_wp2;go_region
    all_goals (go_wp2;go_ret;exact⟨rfl,(Below.drew (Below.refl B w)).alloc I _⟩)
   ·have u:(Builtin.unsafeSliceData_ #[22] 110 #[.slice (some ⟨k,0,none⟩) 0 cap]).run Tryz.prog w.drew=.ok (.pointer (some ⟨k,0,none⟩)) w.drew :=
     Lib.run_unsafeSliceData_row _ _ _ _ _ _ C
    clear d a b G C F r H;go_in
    go_wp2;go_region
    all_goals (go_wp2;go_ret;exact⟨rfl,Below.drew (Below.refl B w)⟩)
  ·have P:m.length ≠ 0:=by simpa using h0
   have c1:w.drew.cell? ⟨g,1,none⟩=some (.slice (some ⟨k,0,none⟩) m.length cap):=by rw [Lib.cell_of_heap a];rfl
   have u:(Builtin.unsafeSliceData_ #[22] 110 #[.slice (some ⟨k,0,none⟩) m.length cap]).run Tryz.prog w.drew=.ok (.pointer (some ⟨k,0,none⟩)) w.drew :=
    Lib.run_unsafeSliceData_row _ _ _ _ _ _ (by omega)
   have E:(Builtin.unsafeString_ #[110,3] 9 #[.pointer (some ⟨k,0,none⟩),.int .i64 m.length]).run Tryz.prog w.drew=.ok (.string ⟨m.toArray⟩) (w.drew.freeze ⟨k,0,none⟩ m.length):=by
    refine Lib.run_unsafeString_row w.drew _ _ _ 5 Tryz.underlying110 RB k t.size (by have D:w.drew.heap[k]? = some (.cells t 5 (0,0)):=G;simp [World.shape?,D]) m h0 (by omega) (by unfold maxLen at K;omega) ?_;intro j x R
    have:=b.cells (g:=k) rfl j (.int .u8 x.toNat) (by simp [Lib.byteCells,R])
    exact this
   clear d a b G F r H;go_in
   go_wp2;go_region
   all_goals (go_wp2;go_ret;exact⟨rfl,Lib.below_freeze (Below.drew (Below.refl B w)) (p:=⟨k,0,none⟩) M _⟩)
theorem yc (T n B g:Nat)(V:yV T n)(rest:List Value)(D:Bs)(c:UInt8)(w:World)(h:Cw T B g rest D w)(E:n=rest.length+2)(X:D.length+1≤1000000000)(hBw:B≤w.heap.size) :
  Calls Tryz.prog 21 #[.pointer (some ⟨g,0,none⟩),.int .u8 c.toNat] w fun e Q =>
   e=.returned .nilIface∧Cw T B g rest (D ++ [c]) Q∧Below B w Q∧lC g w Q:=by
 obtain⟨i0,hi,M,N,P⟩:=info_parts Jk;go_in
 go_wp2_with (go_at_call 57;refine (xP T n B g V rest D _ h E).mono ?_)
 rintro e w1⟨rfl,h1,r,L⟩;have J:=h1.lt;obtain⟨U,v,C,d,K⟩:=h1;have c0:w1.cell? ⟨g,0,none⟩=some (.pointer (some ⟨g,0,none⟩)):=by rw [Lib.cell_of_heap C];rfl
 have c1:w1.cell? ⟨g,1,none⟩=some v:=by rw [Lib.cell_of_heap C];rfl
 have HN:=O E;clear E;have Z:=r.size;have HNW:=O (bY.new w1 5 #[.int .u8 c.toNat]);go_wp2_with (at_builtin;refine wpList_append_own _ rfl (.tmp 11) (.tmp 13) 22 rfl B 5 i0 _ 1 1 Tryz.underlying22 hi M N P rfl (by decide) _ D.length (Lib.byteCells D) rfl (d.alloc _) ⟨w1.heap.size,0,none⟩ 1 1 [.int .u8 c.toNat] rfl rfl ?c1 ?c2 ?c3 ?c4 ?c5 ?_)
 case c1=>exact World.news_of_block (cs:=#[.int .u8 c.toNat]) (t:=5) (fr:=(0,0)) (heap_alloc_new w1 _)
 case c2=>intro u hu;rcases List.mem_singleton.1 hu with rfl;rfl
 case c3=>simp only [maxLen];omega
 case c4=>omega
 case c5=>simp;omega
 intro v' H b a _
 have G:H.heap[g]? = some (.cells (.pointer (some ⟨g,0,none⟩) :: v :: rest).toArray T (0,0)):=by
  rw [a.block g (by simp;omega) (fun e=>K e.symm)];exact (Below.heap_alloc w1 _ g J).trans C
 have m:=O G;clear G;have d0:H.cell? ⟨g,0,none⟩=some (.pointer (some ⟨g,0,none⟩)):=by rw [Lib.cell_of_heap m.o];rfl
 have d1:H.cell? ⟨g,1,none⟩=some v:=by rw [Lib.cell_of_heap m.o];rfl
 have f1:H.frozen? ⟨g,1,none⟩=false:=Lib.frozen_of_heap m.o 1;obtain⟨ao,cap,rfl⟩:=dA b;clear c0 c1 C;have HO:=O b;clear b;have F:=O d;clear d;go_wp2;go_ret
 refine⟨rfl,.inr ?_,?_,?_⟩
 ·refine wZ.put U m.o (bs':=D ++ [c]) ?_ V.ne;have h:=HO.o;rw [amQ]
  simpa [Lib.byteCells] using h
 ·exact ((r.alloc (by have:=r.size;omega) _).grown a (by have:=r.size;simp;omega) (fun k I=>(F.o.lt k I).1)).setCell (p:=⟨g,1,none⟩) U _
 ·refine ((L.trans (lC.of_below ((Below.refl _ _).alloc (amL _) _))).trans ⟨a.size,fun k I _ E=>a.block k I (fun e=>?_)⟩).set 1 _;rcases F.o.2 with ⟨hv,_⟩ | ⟨q,R,cur,hv,_,Y,_⟩
  ·rw [hv] at e;simp [Value.ownBlock] at e
  ·rw [hv] at e;simp [Value.ownBlock] at e
   rw [e] at E;exact E _ _ ((Below.heap_alloc w1 _ q (amI.1 Y).1).trans Y)
end
