/-
  A part of the proof.
-/
import Derived.Test.YtajfdjikimiapaaGreatDoorS17
set_option linter.all false
set_option maxRecDepth 100000
set_option maxHeartbeats 4000000
set_option linter.all false
namespace Go.Proofs.YtajfdjikimiapaaGreatDoor
section
open Go.RowKit Mist
attribute [local go_sem] au aN aV aM aG
section
variable {S:Sz} {B g n c f i j q b2 b3 b4 b6 h:Nat} {cs:Array Value} {w W:World} {A Bi:Option Addr} {nv iv pv:Value} {ps l:List Pz} {xs:List NV} {its:List Int} {x y:NV}
theorem Tz (H:Hid (PZ S B g w W (.slice A n c) iv pv ps))(X:CX w B A Bi n xs its)(K:KX w B g A n c iv xs its f i x)(hk:x.1.kind=42)(hf:0 < f){mp:Nat}(hm1:x.1.kids.length=mp+2)(F:PK w B g A n c iv xs its f mp x)(hq:x.1.kids[mp]? = some ((q:Nat):Int))(G:MC 37 w B g A n c iv ⟨aj xs,its⟩ f q)(E:KE w B g A n c iv xs its f x (mp+1))(n0:-1000000≤x.1.n)(n1:x.1.n≤1000000)
  (hl:ps.length+(aW ⟨aj xs,its⟩ (ah ⟨aj xs,its⟩ f) i).length≤1000000) :
  Calls Tryz.prog 24 #[.pointer (some ⟨g,0,none⟩),.int .i64 i] W (kS S B g w (.slice A n c) iv (gH ps (aW ⟨aj xs,its⟩ (ah ⟨aj xs,its⟩ f) i))):=by
 have en:=xW (T:=⟨aj xs,its⟩) (B:=ah ⟨aj xs,its⟩ f) (i:=i) (by rw [aY its K.hx];exact hk)
 try rw [aY its K.hx] at en
 rw [en] at hl ⊢
 clear en;rw [hm1,show mp+2 - 2=mp by omega,show mp+2 - 1=mp+1 by omega] at hl ⊢
 obtain⟨U,hU⟩:∃ U,U=(if 0 < x.1.n then [lz [117,112,116,111] (-1),lz (Go.Lib.itoa x.1.n) (-1)] else ([]:List Pz)):=⟨_,rfl⟩;rw [← hU] at hl ⊢
 have HU:=O hU;clear hU;have hi:i < n:=by rw [← X.len];exact (aiq.1 K.hx).1
 obtain⟨b,o,hA,hN⟩:=(X.at_ H.o).nodes (by have:=X.len;omega);have HB:=O hN.lt;obtain⟨Q,kc,t,hkl,hki⟩:=X.kids H.o K.hx;obtain⟨m,hm⟩:∃ m,m=x.1.kids.length:=⟨_,rfl⟩;subst hA;have y0:(0:Int)≤(i:Int):=by omega
 have y1:(i:Int) < (n:Int):=by omega
 have hg:=H.o.blk.lt;have EB:=O (show j_ x=#[.int .u8 42,.string (aU x.1.text),.int .i64 x.1.n,.slice Q m kc,.int .i64 x.1.at_] from by unfold j_;rw [hk,t,hm];rfl);have iX:=vV i H;have M:=Pt W g i;have L:=O (Pp W g i);have N:=O hN;have vD:=O t;have nP:=O (show x.1.kind=42 from hk);have V:=O hl;have HX:=O X;have J:=O K;have HM:=O hm;have HF:=O F;have Z:=O hq;have HG:=O G;have HE:=O E;have Hn0:=O n0;have Hn1:=O n1;have Y:=O hk;have adW:=O hm1;have hbw:=HB.o;have Fe:=O (show x.2=.slice Q m kc from by rw [t,hm]);have IL:=O hkl;clear H t hki hl X K hm hN F hq G E n0 n1;go_in
 go_upto_region 1 with (fail)
 generalize (W.alloc (.cells #[.pointer (some ⟨g,0,none⟩)] 56)).alloc (.cells #[.int .i64 (i:Nat)] 3)=w0 at iX M L ⊢
 have c0:w0.cell? ⟨g,0,none⟩=some (.slice (some ⟨b,o,none⟩) n c):=iX.o.blk.cell 0;obtain⟨d2,d3⟩:=jR iX;have jZ:=O M;have ug:g < w0.heap.size:=by omega
 have ub:b < w0.heap.size:=by omega
 have uW:W.heap.size < w0.heap.size:=by omega
 have yM:W.heap.size+1 < w0.heap.size:=by omega
 clear M;have k0:w0.cell? ⟨b,o+i * 5,none⟩=some (.int .u8 42):=by have h:=(N.o.below L.o).c0 i x J.o.hx;rw [nP.o] at h;exact h
 have k1:w0.cell? ⟨b,o+i * 5+1,none⟩=some (.string (aU x.1.text)):=(N.o.below L.o).c1 i x J.o.hx;have k2:w0.cell? ⟨b,o+i * 5+2,none⟩=some (.int .i64 x.1.n):=(N.o.below L.o).c2 i x J.o.hx;have k4:w0.cell? ⟨b,o+i * 5+4,none⟩=some (.int .i64 x.1.at_):=(N.o.below L.o).c4 i x J.o.hx;have k3:w0.cell? ⟨b,o+i * 5+3,none⟩=some (.slice Q m kc):=by rw [HM.o,← vD.o];exact (N.o.below L.o).c3 i x J.o.hx
 go_region
 have P:=Pq i #[.int .u8 42,.string (aU x.1.text),.int .i64 x.1.n,.slice Q m kc,.int .i64 x.1.at_] jZ.o iX;rw [jZ.o]
 generalize (w0.alloc (.cells #[.int .u8 42,.string (aU x.1.text),.int .i64 x.1.n,.slice Q m kc,.int .i64 x.1.at_] 39)).drew=r at P ⊢
 clear hbw c0 k0 k1 k2 k3 k4 d2 d3 iX uW yM ug ub jZ L N HB y0 y1;obtain⟨c2,c3,a,u,C⟩:=cO P;obtain⟨u0,u1,u2⟩:=xlt P;obtain⟨D,I⟩:=qF P;have hmm:=@run_makeMap Tryz.prog;have i0:=NR r;have i1:=NS r;have i2:=NT r;have i3:=NU r;have i4:=NW r;have i5:=NY r;have i6:=NZ r;have hlk:(Instr.lookup 94 (.map (some r.heap.size)) (.int .u8 42) false).run Tryz.prog (r.alloc (.map (gD (eF.take 7) 0).toArray 7))=.ok (.string (aU [102,117,110])) (r.alloc (.map (gD (eF.take 7) 0).toArray 7)):=Dp r 42 _ rfl;go_wp2_with fail;refine (yQ (O (P.o.alloc _)) [102,117,110] (i:Int) (by have:=V.o;simp [ak] at this;omega)).mono ?_;rintro e w1⟨vP,rfl,H1⟩;clear hlk hmm i0 i1 i2 i3 i4 i5 i6 u0 u1 u2 c2 c3 a u C D I P;obtain⟨c2,c3,a,u,C⟩:=cO H1;obtain⟨D,I⟩:=qF H1;go_wp2_with fail;refine (EO H1 x.1.text (-1) (by simp) (by have:=V.o;simp [ak] at this ⊢;omega)).mono ?_;rintro e w2⟨l8,rfl,R⟩;clear c2 c3 a u C D I H1;obtain⟨c2,c3,a,u,C⟩:=cO R;obtain⟨D,I⟩:=qF R
 have k:Calls Tryz.prog 60 #[.pointer (some ⟨g,0,none⟩),.int .i64 i,.agg (j_ x)] w2 (kS (xS W.heap.size g i #[.int .u8 42,.string (aU x.1.text),.int .i64 x.1.n,.slice Q m kc,.int .i64 x.1.at_] S) B g w (.slice (some ⟨b,o,none⟩) n c) iv (gH ps ([tz [102,117,110] (i:Int),lz x.1.text (-1)] ++ tz [40] (-1) :: (aH false (dD ⟨aj xs,its⟩ (ah ⟨aj xs,its⟩ f) i mp) ++ tz [41] (-1) :: tz [58] (-1) :: (aH true (bM ⟨aj xs,its⟩ (ah ⟨aj xs,its⟩ f) i mp) ++ (U ++ lz [61] (-1) :: aH true (bM ⟨aj xs,its⟩ (ah ⟨aj xs,its⟩ f) i (mp+1)))))))):=by
  by_cases hs:0 < x.1.n
  ·have e:=HU.o;rw [if_pos hs] at e;have hL:=V.o;rw [e] at hL ⊢;exact acL R (by simp) HX.o J.o Y.o adW.o hf HF.o Z.o HG.o HE.o Hn0.o Hn1.o hs (by simp [ak] at hL ⊢;omega)
  ·have e:=HU.o;rw [if_neg hs] at e;have hL:=V.o;rw [e] at hL ⊢;exact acK R (by simp) HX.o J.o Y.o adW.o hf HF.o Z.o HG.o HE.o Hn0.o Hn1.o hs (by simp [ak] at hL ⊢;omega)
 rw [EB.o] at k
 have HFU:=O k;clear k;go_wp2_with fail;refine (HFU.o).mono ?_;rintro e w3⟨sw,rfl,H3⟩;clear c2 c3 a u C D I R;obtain⟨c2,c3,a,u,C⟩:=cO H3;obtain⟨D,I⟩:=qF H3;go_wp2_with fail;refine (uO H3 [59] (-1) (by simp) (by have:=V.o;simp [ak] at this ⊢;omega)).mono ?_;rintro e w4⟨B_,rfl,H4⟩;clear c2 c3 a u C D I H3;obtain⟨c2,c3,a,u,C⟩:=cO H4;obtain⟨D,I⟩:=qF H4;go_wp2_with fail;go_end0
 exact⟨_,rfl,O (by have h:=H4.o.xe;simpa [List.append_assoc,dD,tz,lz] using h)⟩
theorem agx {m a:Nat}{fv:Value}{Q:Ending→World→Prop}(h:m=a)(b:Calls Tryz.prog 63 #[.pointer (some ⟨g,0,none⟩),.int .i64 (a:Nat),fv] W Q):Calls Tryz.prog 63 #[.pointer (some ⟨g,0,none⟩),.int .i64 (m:Nat),fv] W Q:=by
 rw [h];exact b
theorem ki2 (H:Hid (PZ S B g w W (.slice A n c) iv pv ps))(X:CX w B A Bi n xs its)(K:KX w B g A n c iv xs its f i x)(h2:(b2,56,#[.pointer (some ⟨g,0,none⟩)]) ∈ S)(h3:(b3,3,#[.int .i64 (i:Nat)]) ∈ S)
  (r:j < x.1.kids.length) (E:KE w B g A n c iv xs its f x j) (a:ps.length+(bM ⟨aj xs,its⟩ (ah ⟨aj xs,its⟩ f) i j).length≤1000000) :
  Calls Tryz.prog 64 #[.int .i64 j,.pointer (some ⟨b2,0,none⟩),.pointer (some ⟨b3,0,none⟩)] W (kS S B g w (.slice A n c) iv (gH ps (bM ⟨aj xs,its⟩ (ah ⟨aj xs,its⟩ f) i j))):=by
 have c2:=(H.o.kp _ h2).1.cell 0;have c3:=(H.o.kp _ h3).1.cell 0;simp only at c2 c3
 have b:=O (kd1 H X K r E a);clear a E K X;go_in
 go_wp2_with fail;refine b.o.mono ?_;rintro e u⟨t,rfl,k⟩;go_wp2_with fail;go_end0
 exact⟨t,rfl,k⟩
theorem Tx (H:Hid (PZ S B g w W (.slice A n c) iv pv ps))(X:CX w B A Bi n xs its)(K:KX w B g A n c iv xs its f i x)(hk:x.1.kind=46)(hf:0 < f){qn:Nat}(Y:x.1.n=((qn+1:Nat):Int))(hqn:qn < 8)(E:∀ j,j < x.1.kids.length→KE w B g A n c iv xs its f x j)
  (V:ps.length+(aW ⟨aj xs,its⟩ (ah ⟨aj xs,its⟩ f) i).length≤1000000) :
  Calls Tryz.prog 24 #[.pointer (some ⟨g,0,none⟩),.int .i64 i] W (kS S B g w (.slice A n c) iv (gH ps (aW ⟨aj xs,its⟩ (ah ⟨aj xs,its⟩ f) i))):=by
 have en:=x9 (T:=⟨aj xs,its⟩) (B:=ah ⟨aj xs,its⟩ f) (i:=i) (by rw [aY its K.hx];exact hk)
 try rw [aY its K.hx] at en
 rw [en] at V ⊢
 clear en;have hqz:x.1.n.toNat=qn+1:=by rw [Y];rfl
 rw [hqz] at V ⊢
 have ws:wrap64 (x.1.n - 1)=(qn:Int):=by rw [Y];unfold wrap64;omega
 have wt:IntKind.i64.wrap (x.1.n - 1)=(qn:Int):=by rw [Y,IntWalk.i64_in _ (by omega)];omega
 obtain⟨QT,J⟩:∃ QT,QT=gG.getD (qn+1) []:=⟨_,rfl⟩;rw [← J] at V ⊢
 have HQT:=O J;clear J hqz;have hi:i < n:=by rw [← X.len];exact (aiq.1 K.hx).1
 obtain⟨b,o,hA,hN⟩:=(X.at_ H.o).nodes (by have:=X.len;omega);have HB:=O hN.lt;obtain⟨R,kc,C,hkl,hki⟩:=X.kids H.o K.hx;obtain⟨m,hm⟩:∃ m,m=x.1.kids.length:=⟨_,rfl⟩;subst hA;have y0:(0:Int)≤(i:Int):=by omega
 have y1:(i:Int) < (n:Int):=by omega
 have hg:=H.o.blk.lt;have EB:=O (show j_ x=#[.int .u8 46,.string (aU x.1.text),.int .i64 x.1.n,.slice R m kc,.int .i64 x.1.at_] from by unfold j_;rw [hk,C,hm];rfl);have iX:=vV i H;have L:=Pt W g i;have I:=O (Pp W g i);have P:=O hN;have vD:=O C;have nP:=O (show x.1.kind=46 from hk);have HL:=O V;have HX:=O X;have G:=O K;have HM:=O hm;have HE:=O E;have Hhn:=O Y;have hbw:=HB.o;have Fe:=O (show x.2=.slice R m kc from by rw [C,hm]);have IL:=O hkl;clear H C hki V X K hm hN E Y;go_in
 go_upto_region 1 with (fail)
 generalize (W.alloc (.cells #[.pointer (some ⟨g,0,none⟩)] 56)).alloc (.cells #[.int .i64 (i:Nat)] 3)=w0 at iX L I ⊢
 have c0:w0.cell? ⟨g,0,none⟩=some (.slice (some ⟨b,o,none⟩) n c):=iX.o.blk.cell 0;obtain⟨d2,d3⟩:=jR iX;have jZ:=O L;have ug:g < w0.heap.size:=by omega
 have ub:b < w0.heap.size:=by omega
 have uW:W.heap.size < w0.heap.size:=by omega
 have yM:W.heap.size+1 < w0.heap.size:=by omega
 clear L;have k0:w0.cell? ⟨b,o+i * 5,none⟩=some (.int .u8 46):=by have h:=(P.o.below I.o).c0 i x G.o.hx;rw [nP.o] at h;exact h
 have k1:w0.cell? ⟨b,o+i * 5+1,none⟩=some (.string (aU x.1.text)):=(P.o.below I.o).c1 i x G.o.hx;have k2:w0.cell? ⟨b,o+i * 5+2,none⟩=some (.int .i64 x.1.n):=(P.o.below I.o).c2 i x G.o.hx;have k4:w0.cell? ⟨b,o+i * 5+4,none⟩=some (.int .i64 x.1.at_):=(P.o.below I.o).c4 i x G.o.hx;have k3:w0.cell? ⟨b,o+i * 5+3,none⟩=some (.slice R m kc):=by rw [HM.o,← vD.o];exact (P.o.below I.o).c3 i x G.o.hx
 go_region
 have Q:=Pq i #[.int .u8 46,.string (aU x.1.text),.int .i64 x.1.n,.slice R m kc,.int .i64 x.1.at_] jZ.o iX;rw [jZ.o]
 generalize (w0.alloc (.cells #[.int .u8 46,.string (aU x.1.text),.int .i64 x.1.n,.slice R m kc,.int .i64 x.1.at_] 39)).drew=k at Q ⊢
 clear hbw c0 k0 k1 k2 k3 k4 d2 d3 iX uW yM ug ub jZ I P HB y0 y1;obtain⟨c2,c3,a,t,u⟩:=cO Q;obtain⟨u0,u1,u2⟩:=xlt Q;obtain⟨D,F⟩:=qF Q;have hmm:=@run_makeMap Tryz.prog;have i0:=NR k;have i1:=NS k;have i2:=NT k;have i3:=NU k;have i4:=NW k;have i5:=NY k;have i6:=NZ k;have hlk:(Instr.lookup 94 (.map (some k.heap.size)) (.int .u8 46) false).run Tryz.prog (k.alloc (.map (gD (eF.take 7) 0).toArray 7))=.ok (.string (aU [97,115,107])) (k.alloc (.map (gD (eF.take 7) 0).toArray 7)):=Dp k 46 _ rfl;go_wp2_with fail;refine (yQ (O (Q.o.alloc _)) [97,115,107] (i:Int) (by have:=HL.o;simp [ak] at this;omega)).mono ?_;rintro e w1⟨vP,rfl,M⟩;clear hlk hmm i0 i1 i2 i3 i4 i5 i6 u0 u1 u2 c2 c3 a t u D F Q;obtain⟨c2,c3,a,t,u⟩:=cO M;obtain⟨D,F⟩:=qF M;have U:=O fun (W2:World) (hb:Below w1.heap.size w1 W2)=>TL HX.o.env (M.o.IU.mono HX.o.b) (Nat.le_trans HX.o.b M.o.lw) hqn hb
 have y0:(0:Int)≤(qn:Int):=by omega
 have y1:(qn:Int) < ((8:Nat):Int):=by omega
 have y2:(qn:Int) < 8:=by omega
 go_upto_region 24 with (fail)
 go_region_with ((first
   | (go_at_call 62
      refine (U.o _ (by (repeat (first|(with_reducible exact Below.refl _ _)|(with_reducible refine Below.drew ?_)));done)).mono ?_;rintro e wA⟨hqb,rfl,Z,hb⟩;rw [← HQT.o] at Z
      have N:=O (M.o.below hb);clear c2 c3 a t u D F hb;obtain⟨c2,c3,a,t,u⟩:=cO N)
   | (go_at_call 54
      refine (EO (S:=xS W.heap.size g i #[.int .u8 46,.string (aU x.1.text),.int .i64 x.1.n,.slice R m kc,.int .i64 x.1.at_] S) (by first | exact N | exact O N.o.drew | exact O N.o.drew.drew | exact O (N.o.drewN _)) QT (-1) (by simp) (by have:=HL.o;simp [ak] at this ⊢;omega)).mono ?_;rintro e w2⟨l8,rfl,H2⟩;clear c2 c3 a t u Z;obtain⟨c2,c3,a,t,u⟩:=cO H2)))
 all_goals
  clear N M U y0 y1 y2 ws wt;obtain⟨D,F⟩:=qF H2;go_wp2_with fail;refine (Qi (r:=dD ⟨aj xs,its⟩ (ah ⟨aj xs,its⟩ f) i x.1.kids.length) (agx HM.o (ls1 H2 64 #[.pointer (some ⟨W.heap.size,0,none⟩),.pointer (some ⟨W.heap.size+1,0,none⟩)] (bM ⟨aj xs,its⟩ (ah ⟨aj xs,its⟩ f) i) x.1.kids.length (G.o.ne hf 0 (.inr rfl)) IL.o (by have:=HL.o;rw [dR];simp [ak,dD] at this ⊢;omega) (fun j W'=>by kernel_rfl) (fun j W' pv' qs hj hq h=>ki2 h HX.o G.o (EY _ _ _ _ _) (II _ _ _ _ _) hj (HE.o j hj) hq))) (by simp)).mono ?_;rintro e w3⟨sw,rfl,H3⟩;clear c2 c3 a t u D F H2;obtain⟨c2,c3,a,t,u⟩:=cO H3;obtain⟨D,F⟩:=qF H3;go_wp2_with fail;refine (uO H3 [59] (-1) (by simp) (by have:=HL.o;simp [ak] at this ⊢;omega)).mono ?_;rintro e w4⟨B_,rfl,H4⟩;clear c2 c3 a t u D F H3;obtain⟨c2,c3,a,t,u⟩:=cO H4;obtain⟨D,F⟩:=qF H4;go_wp2_with fail;go_end0
  exact⟨_,rfl,O (by have h:=H4.o.xe;simpa [List.append_assoc,dD,tz,lz] using h)⟩
end
end
set_option linter.all false
section
open Go.RowKit Mist
theorem Tw {B g n c:Nat}{w:World}{A Bi:Option Addr}{iv:Value}{xs:List NV}{its:List Int}(X:CX w B A Bi n xs its)(a:GD ⟨aj xs,its⟩)(f i:Nat)(hif:i+1 < f)(o:i < n)(ht:dB (nd (⟨aj xs,its⟩:Tr) i).kind=true):MC 24 w B g A n c iv ⟨aj xs,its⟩ f i:=by
 obtain⟨f,rfl⟩:∃ f',f=f'+1:=⟨f - 1,by omega⟩;have Q:(⟨aj xs,its⟩:Tr).nodes.length=n:=by rw [← X.len];simp [aj]
 obtain⟨x,hx⟩:=iG (xs:=xs) (i:=i) (by rw [X.len];exact o);have G:=aY its hx;have P:=U5 (a.right i (by rw [Q];exact o));have hN:=a.num i (by rw [Q];exact o);rw [G] at hN
 have K:KX w B g A n c iv xs its f i x:=GD.kx X a hx (by omega);have I:0 < f:=by omega
 have kid:∀ j,j < x.1.kids.length→∃ q y,x.1.kids[j]? = some ((q:Nat):Int)∧xs[q]? = some y∧q < i∧q < n∧jL x.1 j y.1.kind=true∧(y.1.kind=1→y.1.n < 0→x.1.kind=40):=by
  intro j D;obtain⟨q,b,e2⟩:=a.kid (i:=i) (j:=j) (by rw [Q];exact o) (by rw [G];exact D);rw [G] at b
  obtain⟨y,hy⟩:=iG (xs:=xs) (i:=q) (by rw [X.len];omega);have h1:=P.kid j (by rw [G];exact D);have h2:=P.neg j (by rw [G];exact D);rw [G,ait,b] at h1 h2
  have h1:jL x.1 j (nd (⟨aj xs,its⟩:Tr) q).kind=true:=h1;have h2:(nd (⟨aj xs,its⟩:Tr) q).kind=1→(nd (⟨aj xs,its⟩:Tr) q).n < 0→x.1.kind=40:=h2;rw [aY its hy] at h1 h2
  exact⟨q,y,b,hy,e2,by omega,h1,h2⟩
 have Z:∀ (j q:Nat) (y:NV),x.1.kids[j]? = some ((q:Nat):Int)→xs[q]? = some y→eZ y.1.kind=true→(y.1.kind=1→y.1.n < 0→x.1.kind=40)→x.1.kind ≠ 40→q < i→XC w B g A n c iv ⟨aj xs,its⟩ f q:=fun j q y b hy he h2 rG hq =>
  WB X a f q (by omega) (by omega) (by rw [aY its hy];exact he) (fun k=>by
   rw [aY its hy] at k ⊢
   rcases Int.lt_or_le y.1.n 0 with h5 | h5
   ·exact absurd (h2 k h5) rG
   ·exact h5)
 intro S W pv ps H C;rw [show ah ⟨aj xs,its⟩ (f+1) i=aW ⟨aj xs,its⟩ (ah ⟨aj xs,its⟩ f) i from rfl] at C ⊢
 have J:=P.many;have pQ:=P.num;rw [G] at ht J pQ
 have U:(x.1.kind=43∨x.1.kind=44∨x.1.kind=46)→∀ j,j < x.1.kids.length→KE w B g A n c iv xs its f x j:=by
  intro hk j D q e;obtain⟨E,y,b,hy,h1,h2,h3,h4⟩:=kid j D;rw [e] at b
  injection b with b
  have:q=E:=by omega
  subst this;refine Z j q y e hy ?_ h4 (by omega) h1;unfold jL at h3
  rwa [if_neg (by omega),if_neg (by omega),if_neg (by omega),if_neg (by omega),if_neg (by omega)] at h3
 simp [dB] at ht
 rcases (by omega:x.1.kind=40∨x.1.kind=41∨x.1.kind=42∨x.1.kind=43∨x.1.kind=44∨x.1.kind=45∨x.1.kind=46) with k | k | k | k | k | k | k
 ·have h2:=qd (by omega) _ k J;obtain⟨q,y,b,hy,a1,N,u,a4⟩:=kid 0 (by omega);obtain⟨r,z,f1,R,b1,b2,b3,b4⟩:=kid 1 (by omega)
  have num:∀ {q:Nat} {y:NV},xs[q]? = some y→y.1.kind=1→-9999≤y.1.n∧y.1.n≤9999:=fun {q y} hy hk=>by
   have:=(U5 (a.right q (by rw [Q,← X.len];exact (aiq.1 hy).1))).num
   rw [aY its hy] at this
   exact aaN hk this
  have T:∀ {j t:Nat},jL x.1 j t=true→t=1:=fun {j t} h=>by
   unfold jL at h
   rw [if_neg (by omega),if_neg (by omega),if_neg (by omega),if_pos k] at h
   simpa using h
  exact Ig H X K k I h2 b hy f1 R ⟨by omega,by omega⟩ ⟨T u,T b3⟩ (num hy (T u)) (num R (T b3)) C
 ·refine OB H X K k I (abS (.inr (.inr rfl)) _ k J) (fun j q D e=>?_) C;obtain⟨E,y,b,hy,a1,N,u,a4⟩:=kid j D;rw [e] at b
  injection b with b
  have:q=E:=by omega
  subst this;refine FX X a f q (by omega) N ?_;rw [aY its hy];unfold jL at u
  rw [if_neg (by omega),if_pos k] at u
  simpa using u
 ·have h2:=Ol _ k J;obtain⟨mp,L⟩:∃ m,x.1.kids.length=m+2:=⟨x.1.kids.length - 2,by omega⟩;have h8:=hN.fn k;obtain⟨q,y,b,hy,a1,N,u,a4⟩:=kid mp (by omega)
  have Y:∀ {j t:Nat},jL x.1 j t=true→(if j+1=mp+2 then eZ t else if j+2=mp+2 then gF t else decide (t=34))=true:=fun {j t} h=>by
   unfold jL at h
   rw [if_neg (by omega),if_neg (by omega),if_neg (by omega),if_neg (by omega),if_pos k,L] at h
   exact h
  have t1:=Y u;rw [if_neg (by omega),if_pos rfl] at t1
  refine Tz H X K k I L (fun j q D e=>?_) b (Km X a f q (by omega) N (by rw [aY its hy];exact t1)) (fun E e=>?_) (by omega) (by omega) C
  ·obtain⟨E,y',F,V,b1,b2,b3,b4⟩:=kid j (by omega);rw [e] at F
   injection F with F
   have:q=E:=by omega
   subst this;have M:=Y b3;rw [if_neg (by omega),if_neg (by omega)] at M
   exact FX X a f q (by omega) b2 (by rw [aY its V];simpa using M)
  ·obtain⟨r,z,f1,R,b1,b2,b3,b4⟩:=kid (mp+1) (by omega);rw [e] at f1
   injection f1 with f1
   have:E=r:=by omega
   subst this;have M:=Y b3;rw [if_pos rfl] at M
   exact Z (mp+1) E z e R M b4 (by omega) b1
 ·exact TB H X K k I (many1 (by decide) _ k J) (U (by omega)) C
 ·exact EM H X K k I (many1 (by decide) _ k J) (U (by omega)) C
 ·exact EN H X K k I C
 ·have h8:=X4 k pQ;exact Tx H X K k I (qn:=(x.1.n - 1).toNat) (by omega) (by omega) (U (by omega)) C
end
section
open Go.RowKit Mist
attribute [local go_sem] au aN aV aM aG
structure wh (T n:Nat):Prop where
 lies:liesAt Tryz.prog Tryz.prog.depth T (n / Tryz.prog.cellsOf T) 0 49 1=true
 ne:T ≠ 5
def uJ (T B g:Nat)(p:Value)(rest:List Value)(bs:Bs)(w:World):Prop :=
 B≤g∧∃ v,w.heap[g]? = some (.cells (p :: v :: rest).toArray T (0,0))∧w.ownsRow B 5 1 v bs.length (Lib.byteCells bs)∧v.ownBlock ≠ some g
def yN (T B g:Nat)(rest:List Value)(bs:Bs)(w:World):Prop :=
 uJ T B g (.pointer none) rest bs w∨uJ T B g (.pointer (some ⟨g,0,none⟩)) rest bs w
theorem wO:(Tryz.prog.info? 49).map (·.size)=some 2:=by kernel_rfl
theorem Fw:(Tryz.prog.info? 5).map (fun i=>(i.zero,i.size,i.bytes))=some (some (.int .u8 0),1,1):=by kernel_rfl
theorem Nf:Tryz.prog.cellsOf 5=1:=by kernel_rfl
theorem yN.any {T B g:Nat}{rest:List Value}{a:Bs}{w:World}(h:yN T B g rest a w):∃ p,uJ T B g p rest a w:=by
 rcases h with h | h
 ·exact⟨_,h⟩
 ·exact⟨_,h⟩
theorem uJ.lt {T B g:Nat}{p:Value}{rest:List Value}{b:Bs}{w:World}(h:uJ T B g p rest b w):g < w.heap.size:=by
 obtain⟨_,v,e,_⟩:=h;rcases Nat.lt_or_ge g w.heap.size with a | a
 ·exact a
 ·simp [Array.getElem?_eq_none a] at e
theorem uJ.used {T B g:Nat}{p:Value}{rest:List Value}{o:Bs}{w:World}(h:uJ T B g p rest o w)(q:Value):uJ T B g q rest o (w.setCell ⟨g,0,none⟩ q):=by
 obtain⟨r,v,t,b,a⟩:=h
 refine⟨r,v,?_,?_,a⟩
 ·simp [World.setCell,Array.getElem?_modify,t]
 ·refine b.kept (row:=some g) ⟨rfl,rfl,rfl,by simp [World.setCell],fun k _ u=>Below.heap_setCell _ _ _ _ (fun e=>u (by simp [e]))⟩ ?_;exact Or.inr a
theorem uJ.put {T B g:Nat}{p v r:Value}{rest:List Value}{bs':Bs}{w:World}(u:B≤g)(t:w.heap[g]? = some (.cells (p :: v :: rest).toArray T (0,0)))(a:w.ownsRow B 5 1 r bs'.length (Lib.byteCells bs'))(o:T ≠ 5) :
  uJ T B g p rest bs' (w.setCell ⟨g,1,none⟩ r):=by
 have b:=Lib.ownBlock_ne a t o
 refine⟨u,r,?_,?_,b⟩
 ·simp [World.setCell,Array.getElem?_modify,t]
 ·exact a.kept (row:=some g) ⟨rfl,rfl,rfl,by simp [World.setCell],fun k _ C=>Below.heap_setCell _ _ _ _ (fun e=>C (by simp [e]))⟩ (Or.inr b)
theorem uJ.below {T B g:Nat}{p:Value}{rest:List Value}{o:Bs}{w t:World}(h:uJ T B g p rest o w)(r:Below w.heap.size w t):uJ T B g p rest o t:=by
 have e:=h.lt;obtain⟨u,v,b,a,k⟩:=h;exact⟨u,v,(r.block g e).trans b,own_below a r,k⟩
theorem yN.below {T B g:Nat}{rest:List Value}{a:Bs}{w e:World}(h:yN T B g rest a w)(b:Below w.heap.size w e):yN T B g rest a e:=by
 rcases h with h | h
 ·exact .inl (h.below b)
 ·exact .inr (h.below b)
theorem yN.lt {T B g:Nat}{rest:List Value}{a:Bs}{w:World}(h:yN T B g rest a w):g < w.heap.size:=by
 obtain⟨p,h⟩:=h.any;exact h.lt
theorem yN.fresh (T:Nat)(rest:List Value)(w:World):yN T w.heap.size w.heap.size rest [] (w.alloc (.cells (.pointer none :: .slice none 0 0 :: rest).toArray T)) :=
 Or.inl ⟨aiv _,.slice none 0 0,heap_alloc_new w _,World.ownsRow_nil _ _ _ _,by simp [Value.ownBlock]⟩
structure kL (g:Nat) (w w':World):Prop where
 size:w.heap.size≤w'.heap.size
 block:∀ k,k < w.heap.size→k ≠ g→(∀ cs fr,w.heap[k]? ≠ some (.cells cs 5 fr))→w'.heap[k]? = w.heap[k]?
theorem kL.refl (g:Nat)(w:World):kL g w w:=⟨aiv _,fun _ _ _ _=>rfl⟩
theorem kL.trans {g:Nat}{a b c:World}(h:kL g a b)(k:kL g b c):kL g a c :=
 ⟨Nat.le_trans h.size k.size,fun i hi o r=>(k.block i (aiI hi h.size) o (fun cs fr e=>r cs fr ((h.block i hi o r).symm.trans e))).trans (h.block i hi o r)⟩
theorem kL.of_below {g:Nat}{w a:World}(h:Below w.heap.size w a):kL g w a:=⟨h.size,fun k b _ _=>h.block k b⟩
theorem kL.set {g:Nat}{a w:World}(h:kL g a w)(o:Nat)(u:Value):kL g a (w.setCell ⟨g,o,none⟩ u) :=
 h.trans ⟨by simp [World.setCell],fun k _ b _=>Below.heap_setCell _ _ _ _ b⟩
theorem kL.cell {g k:Nat}{cs:Array Value}{T:TypeId}{fr:Nat × Nat}{w b:World}(h:kL g w b)(a:w.heap[k]? = some (.cells cs T fr))(t:k ≠ g)(r:T ≠ 5):b.heap[k]? = some (.cells cs T fr):=by
 rw [h.block k (ais.1 a).1 t,a];intro cs' o e;rw [a] at e
 simp only [Option.some.injEq,Obj.cells.injEq] at e
 exact r e.2.1
theorem Db (g:Nat)(w:World)(h0:w.cell? ⟨g,0,none⟩=some (.pointer (some ⟨g,0,none⟩))) :
  Calls Tryz.prog 65 #[.pointer (some ⟨g,0,none⟩)] w fun e b=>e=.returned (.tuple #[])∧w=b:=by
 obtain⟨j,a,_⟩:=Option.map_eq_some_iff.1 wO;go_in
 go_wp2;rw [Lib.run_neq_ptr_same w _ Tryz.underlying46 a];go_wp2;go_end0
 exact⟨rfl,rfl⟩
theorem Bl (T n g:Nat)(o:wh T n)(w:World)(h0:w.cell? ⟨g,0,none⟩=some (.pointer none))(a:w.shape? g=some (T,n))(t:0 < n)(r:w.frozen? ⟨g,0,none⟩=false) :
  Calls Tryz.prog 65 #[.pointer (some ⟨g,0,none⟩)] w fun e u=>e=.returned (.tuple #[])∧w.setCell ⟨g,0,none⟩ (.pointer (some ⟨g,0,none⟩))=u:=by
 obtain⟨j,k,b⟩:=Option.map_eq_some_iff.1 wO;go_in
 go_wp2;rw [Lib.run_to_unsafe w ⟨g,0,none⟩ Tryz.underlying46 Tryz.underlying147 k (by rw [b];decide) a t];simp only [Result.andThen];rw [Oper.upon_value];go_wp2;rw [run_callFunc_extern Tryz.func112 (by kernel_rfl) (by kernel_rfl) (by kernel_rfl) (e:=Extern.AbiNoEscape.same) (by kernel_rfl)];rw [Lib.run_noEscape];simp only [Result.andThen];rw [Oper.upon_value];go_wp2;rw [Lib.run_from_unsafe w ⟨g,0,none⟩ Tryz.underlying147 Tryz.underlying46 k a o.lies];simp only [Result.andThen];rw [Oper.upon_value];go_wp2;go_end0
 exact⟨rfl,rfl⟩
theorem uY (T n B g:Nat)(r:wh T n)(rest:List Value)(k:Bs)(w:World)(h:yN T B g rest k w)(t:n=rest.length+2) :
  Calls Tryz.prog 65 #[.pointer (some ⟨g,0,none⟩)] w fun e b=>e=.returned (.tuple #[])∧uJ T B g (.pointer (some ⟨g,0,none⟩)) rest k b∧Below B w b∧kL g w b:=by
 rcases h with h | h
 ·obtain⟨o,v,a,_⟩:=id h;refine (Bl T n g r w (by rw [Lib.cell_of_heap a];rfl) (by simp [World.shape?,a,t]) (by omega) (Lib.frozen_of_heap a 0)).mono ?_;rintro e b ⟨rfl,rfl⟩;exact⟨rfl,h.used _,(Below.refl _ _).setCell (p:=⟨g,0,none⟩) o _,(kL.refl _ _).set _ _⟩
 ·obtain⟨o,v,a,_⟩:=id h;refine (Db g w (by rw [Lib.cell_of_heap a];rfl)).mono ?_;rintro e b ⟨rfl,rfl⟩;exact⟨rfl,h,Below.refl _ _,kL.refl _ _⟩
theorem Ir (s:Bs):Lib.strCells (aU s)=Lib.byteCells s:=rfl
theorem iy (T n B g:Nat)(V:wh T n)(rest:List Value)(F s:Bs)(w:World)(h:yN T B g rest F w)(D:n=rest.length+2)(X:F.length+s.length≤1000000000)(hBw:B≤w.heap.size) :
  Calls Tryz.prog 26 #[.pointer (some ⟨g,0,none⟩),.string (aU s)] w fun e Q =>
   e=.returned (.tuple #[.int .i64 s.length,.nilIface])∧yN T B g rest (F ++ s) Q∧Below B w Q∧kL g w Q:=by
 obtain⟨i0,hi,M,N,P⟩:=info_parts Fw;go_in
 go_wp2_with (go_at_call 65;refine (uY T n B g V rest F _ h D).mono ?_)
 rintro e w1⟨rfl,h1,C,L⟩;have J:=h1.lt;obtain⟨U,v,u,r,K⟩:=h1;have Z:w1.cell? ⟨g,0,none⟩=some (.pointer (some ⟨g,0,none⟩)):=by rw [Lib.cell_of_heap u];rfl
 have c1:w1.cell? ⟨g,1,none⟩=some v:=by rw [Lib.cell_of_heap u];rfl
 have HN:=O D;clear D;go_wp2_with (at_builtin;refine Lib.wpList_append_own_string _ rfl _ _ 47 9 rfl B 5 i0 Tryz.underlying47 Tryz.underlying9 hi M N P _ _ _ rfl r (aU s) rfl ?c3 ?c4 ?c5 ?_)
 case c3=>rw [aN];unfold maxLen;omega
 case c4=>rw [aN];omega
 case c5=>have:=C.size;omega
 intro v' H b a _
 have G:H.heap[g]? = some (.cells (.pointer (some ⟨g,0,none⟩) :: v :: rest).toArray T (0,0)):=by
  rw [a.block g J (fun e=>K e.symm)];exact u
 have t:=O G;clear G;have d0:H.cell? ⟨g,0,none⟩=some (.pointer (some ⟨g,0,none⟩)):=by rw [Lib.cell_of_heap t.o];rfl
 have d1:H.cell? ⟨g,1,none⟩=some v:=by rw [Lib.cell_of_heap t.o];rfl
 have f1:H.frozen? ⟨g,1,none⟩=false:=Lib.frozen_of_heap t.o 1;obtain⟨ao,cap,rfl⟩:=dh b;clear Z c1 u;have Y:=O b;clear b;have E:=O r;clear r;go_wp2;go_ret2
 refine⟨rfl,.inr ?_,?_,?_⟩
 ·refine uJ.put U t.o (bs':=F ++ s) ?_ V.ne
  have:=Y.o
  rw [Ir,← Lib.byteCells_append] at this
  rw [aiA];exact this
 ·exact (C.grown a (by have:=C.size;omega) (fun k I=>(E.o.lt k I).1)).setCell (p:=⟨g,1,none⟩) U _
 ·refine (L.trans ⟨a.size,fun k I _ D=>a.block k I (fun e=>?_)⟩).set 1 _;rcases E.o.2 with ⟨hv,_⟩ | ⟨q,R,cur,hv,_,hq,_⟩
  ·rw [hv] at e;simp [Value.ownBlock] at e
  ·rw [hv] at e;simp [Value.ownBlock] at e
   rw [e] at D;exact D _ _ hq
theorem unsafeString_none (W:World)(q:Option Addr):(Builtin.unsafeString_ #[105,3] 9 #[.pointer q,.int .i64 0]).run Tryz.prog W=.ok (.string .empty) W :=
 Lib.run_unsafeString_none W _ _ _ q
theorem rR (T B g:Nat)(rest:List Value)(r:Bs)(w:World)(h:yN T B g rest r w)(J:B≤w.heap.size) :
  Calls Tryz.prog 29 #[.pointer (some ⟨g,0,none⟩)] w fun e V=>e=.returned (.string (aU r))∧Below B w V:=by
 have M:=h.lt;obtain⟨p,X,v,o,b,R⟩:=h.any;clear h;have P:=O o;have a:w.drew.heap[g]? = some (.cells (p :: v :: rest).toArray T (0,0)):=o;rcases b.2 with ⟨rfl,h0⟩ | ⟨k,cap,u,rfl,N,H,I,L,G,t⟩
 ·have K:r=[]:=List.eq_nil_of_length_eq_zero h0;subst K;have F:=unsafeString_none;have c1:w.drew.cell? ⟨g,1,none⟩=some (.slice none 0 0):=by rw [Lib.cell_of_heap a];rfl
  have C:(Builtin.unsafeSliceData_ #[47] 105 #[.slice none 0 0]).run Tryz.prog w.drew=.ok (.pointer none) w.drew:=rfl;clear o a b;go_in
  go_wp2;go_region
  all_goals (go_wp2;go_ret;exact⟨rfl,Below.drew (Below.refl B w)⟩)
 ·by_cases h0:r=[]
  ·subst h0;have F:=unsafeString_none;have c1:w.drew.cell? ⟨g,1,none⟩=some (.slice (some ⟨k,0,none⟩) 0 cap):=by rw [Lib.cell_of_heap a];rfl
   by_cases D:cap=0
   ·subst D
    have C:(Builtin.unsafeSliceData_ #[47] 105 #[.slice (some ⟨k,0,none⟩) 0 0]).run Tryz.prog w.drew=.ok (.pointer (some ⟨w.drew.heap.size,0,none⟩)) (w.drew.alloc (.view ⟨k,0,none⟩ 5)) :=
     Lib.run_unsafeSliceData_zero w.drew _ _ 5 Tryz.underlying105 ⟨k,0,none⟩ 0 (5,u.size) (by have E:w.drew.heap[k]? = some (.cells u 5 (0,0)):=H;simp [World.shape?,E])
    have c2:(w.drew.alloc (.view ⟨k,0,none⟩ 5)).cell? ⟨g,1,none⟩=some (.slice (some ⟨k,0,none⟩) 0 0):=by
     have:(w.drew.alloc (.view ⟨k,0,none⟩ 5)).heap[g]? = _:=(Lib.alloc_old w.drew _ g M).trans a
     rw [Lib.cell_of_heap this];rfl
    have c3:(w.alloc (.view ⟨k,0,none⟩ 5)).drew.cell? ⟨g,1,none⟩=some (.slice (some ⟨k,0,none⟩) 0 0):=c2;have c4:w.cell? ⟨g,1,none⟩=some (.slice (some ⟨k,0,none⟩) 0 0):=c1;clear o a b H;go_in
    go_wp2;go_region
    all_goals (go_wp2;go_ret;exact⟨rfl,(Below.drew (Below.refl B w)).alloc J _⟩)
   ·have C:(Builtin.unsafeSliceData_ #[47] 105 #[.slice (some ⟨k,0,none⟩) 0 cap]).run Tryz.prog w.drew=.ok (.pointer (some ⟨k,0,none⟩)) w.drew :=
     Lib.run_unsafeSliceData_row _ _ _ _ _ _ D
    clear o a b H D G t I;go_in
    go_wp2;go_region
    all_goals (go_wp2;go_ret;exact⟨rfl,Below.drew (Below.refl B w)⟩)
  ·have Q:r.length ≠ 0:=by simpa using h0
   have c1:w.drew.cell? ⟨g,1,none⟩=some (.slice (some ⟨k,0,none⟩) r.length cap):=by rw [Lib.cell_of_heap a];rfl
   have C:(Builtin.unsafeSliceData_ #[47] 105 #[.slice (some ⟨k,0,none⟩) r.length cap]).run Tryz.prog w.drew=.ok (.pointer (some ⟨k,0,none⟩)) w.drew :=
    Lib.run_unsafeSliceData_row _ _ _ _ _ _ (by omega)
   have F:(Builtin.unsafeString_ #[105,3] 9 #[.pointer (some ⟨k,0,none⟩),.int .i64 r.length]).run Tryz.prog w.drew=.ok (.string ⟨r.toArray⟩) (w.drew.freeze ⟨k,0,none⟩ r.length):=by
    refine Lib.run_unsafeString_row w.drew _ _ _ 5 Tryz.underlying105 Nf k u.size (by have E:w.drew.heap[k]? = some (.cells u 5 (0,0)):=H;simp [World.shape?,E]) r h0 (by omega) (by unfold maxLen at L;omega) ?_;intro j x U
    have:=b.cells (g:=k) rfl j (.int .u8 x.toNat) (by simp [Lib.byteCells,U])
    exact this
   clear o a b H G t I;go_in
   go_wp2;go_region
   all_goals (go_wp2;go_ret;exact⟨rfl,Lib.below_freeze (Below.drew (Below.refl B w)) (p:=⟨k,0,none⟩) N _⟩)
end
section
open Go.RowKit Mist
attribute [local go_sem] au aN aV aM aG
theorem vv (T n B g:Nat)(Y:wh T n)(rest:List Value)(F:Bs)(c:UInt8)(w:World)(h:yN T B g rest F w)(G:n=rest.length+2)(Z:F.length+1≤1000000000)(hBw:B≤w.heap.size) :
  Calls Tryz.prog 27 #[.pointer (some ⟨g,0,none⟩),.int .u8 c.toNat] w fun e U =>
   e=.returned .nilIface∧yN T B g rest (F ++ [c]) U∧Below B w U∧kL g w U:=by
 obtain⟨i0,hi,P,Q,R⟩:=info_parts Fw;go_in
 go_wp2_with (go_at_call 65;refine (uY T n B g Y rest F _ h G).mono ?_)
 rintro e w1⟨rfl,h1,D,N⟩;have L:=h1.lt;obtain⟨X,v,E,r,M⟩:=h1;have c0:w1.cell? ⟨g,0,none⟩=some (.pointer (some ⟨g,0,none⟩)):=by rw [Lib.cell_of_heap E];rfl
 have c1:w1.cell? ⟨g,1,none⟩=some v:=by rw [Lib.cell_of_heap E];rfl
 have HN:=O G;clear G;have hz1':=D.size;have HNW:=O (aZ.new w1 5 #[.int .u8 c.toNat]);go_wp2_with (at_builtin;refine wpList_append_own _ rfl (.tmp 11) (.tmp 13) 47 rfl B 5 i0 _ 1 1 Tryz.underlying47 hi P Q R rfl (by decide) _ F.length (Lib.byteCells F) rfl (r.alloc _) ⟨w1.heap.size,0,none⟩ 1 1 [.int .u8 c.toNat] rfl rfl ?c1 ?c2 ?c3 ?c4 ?c5 ?_)
 case c1=>exact World.news_of_block (cs:=#[.int .u8 c.toNat]) (t:=5) (fr:=(0,0)) (heap_alloc_new w1 _)
 case c2=>intro u hu;rcases List.mem_singleton.1 hu with rfl;rfl
 case c3=>simp only [maxLen];omega
 case c4=>omega
 case c5=>simp;omega
 intro v' J b a _
 have I:J.heap[g]? = some (.cells (.pointer (some ⟨g,0,none⟩) :: v :: rest).toArray T (0,0)):=by
  rw [a.block g (by simp;omega) (fun e=>M e.symm)];exact (Below.heap_alloc w1 _ g L).trans E
 have C:=O I;clear I;have d0:J.cell? ⟨g,0,none⟩=some (.pointer (some ⟨g,0,none⟩)):=by rw [Lib.cell_of_heap C.o];rfl
 have d1:J.cell? ⟨g,1,none⟩=some v:=by rw [Lib.cell_of_heap C.o];rfl
 have f1:J.frozen? ⟨g,1,none⟩=false:=Lib.frozen_of_heap C.o 1;obtain⟨ao,cap,rfl⟩:=dh b;clear c0 c1 E;have HO:=O b;clear b;have H:=O r;clear r;go_wp2;go_ret
 refine⟨rfl,.inr ?_,?_,?_⟩
 ·refine uJ.put X C.o (bs':=F ++ [c]) ?_ Y.ne;have h:=HO.o;rw [aiA]
  simpa [Lib.byteCells] using h
 ·exact ((D.alloc (by have:=D.size;omega) _).grown a (by have:=D.size;simp;omega) (fun k K=>(H.o.lt k K).1)).setCell (p:=⟨g,1,none⟩) X _
 ·refine ((N.trans (kL.of_below ((Below.refl _ _).alloc (aiv _) _))).trans ⟨a.size,fun k K _ G=>a.block k K (fun e=>?_)⟩).set 1 _;rcases H.o.2 with ⟨hv,_⟩ | ⟨q,V,cur,hv,_,hq,_⟩
  ·rw [hv] at e;simp [Value.ownBlock] at e
  ·rw [hv] at e;simp [Value.ownBlock] at e
   rw [e] at G;exact G _ _ ((Below.heap_alloc w1 _ q (ais.1 hq).1).trans hq)
end
set_option linter.all false
end Go.Proofs.YtajfdjikimiapaaGreatDoor
namespace Mist
theorem zW (a b:List Pz):dW (a ++ b)=dW a ++ dW b:=by
 induction a with
 | nil=>rfl
 | cons p r e=>show (if p.blank then [32] else []) ++ (p.text ++ dW (r ++ b))=((if p.blank then [32] else []) ++ (p.text ++ dW r)) ++ dW b;rw [e];simp
theorem Pg (l:List Pz)(m:Nat)(p:Pz)(h:l[m]? = some p):dW (l.take (m+1))=dW (l.take m) ++ (if p.blank then [32] else []) ++ p.text:=by
 have a:m < l.length:=(aiq.1 h).1;have e:l[m]=p:=(aiq.1 h).2;rw [List.take_succ_eq_append_getElem a,e,zW];simp [dW]
theorem Y4 (l:List Pz)(m:Nat):(dW (l.take m)).length≤(dW l).length:=by
 have h:=zW (l.take m) (l.drop m);rw [List.take_append_drop] at h
 rw [h];simp
end Mist
namespace Go.Proofs.YtajfdjikimiapaaGreatDoor
section
open Go.RowKit Mist
attribute [local go_sem] au aN aV aM aG
structure Rj (w:World) (A:Option Addr) (l:List Pz):Prop where
 at_:0 < l.length→∃ b o,A=some ⟨b,o,none⟩∧b < w.heap.size∧∀ k p,l[k]? = some p→w.cell? ⟨b,o+k * 3,none⟩=some (.string (aU p.text))∧w.cell? ⟨b,o+k * 3+1,none⟩=some (.bool p.blank)∧w.cell? ⟨b,o+k * 3+2,none⟩=some (.int .i64 p.node)
theorem Rj.below {w t:World}{A:Option Addr}{l:List Pz}(h:Rj w A l)(r:Below w.heap.size w t):Rj t A l:=⟨fun h0=>by
 obtain⟨b,o,e,a,u⟩:=h.at_ h0
 refine⟨b,o,e,aiI a r.size,fun k p C=>?_⟩
 obtain⟨h1,h2,h3⟩:=u k p C;exact⟨(r.cell (p:=⟨b,_,none⟩) a).trans h1,(r.cell (p:=⟨b,_,none⟩) a).trans h2,(r.cell (p:=⟨b,_,none⟩) a).trans h3⟩⟩
theorem kU:wh 49 2:=⟨by kernel_rfl,by decide⟩
theorem Ph (A:Option Addr)(c:Nat)(l:List Pz)(w:World)(h:Rj w A l)(hn:l.length≤1000000)(ht:(dW l).length≤100000000) :
  Calls Tryz.prog 67 #[.slice A l.length c] w fun e w'=>e=.returned (.string (aU (dW l)))∧Below w.heap.size w w':=by
 have HP:=O h;clear h;have HT:=O ht;clear ht;obtain⟨n,G⟩:∃ n,n=l.length:=⟨_,rfl⟩;rw [← G] at hn ⊢
 have HN:=O G;clear G;go_in
 go_wp2_with fail;have H:=O (yN.fresh 49 [] w);have gN:=O ((Below.refl w.heap.size w).alloc (aiv _) (.cells #[.pointer none,.slice none 0 0] 49));go_loopw [8] (fun iv wr=>∃ m:Nat,m≤n∧iv=.int .i64 m∧Hid (yN 49 w.heap.size w.heap.size [] (dW (l.take m)) wr)∧Hid (Below w.heap.size w wr)) (fun iv _=>n - (intOf iv).toNat)
 case atStart=>exact⟨0,aix _,rfl,H,gN⟩
 case round =>
  obtain⟨m,hm,rfl,X,Q⟩:=hrel;clear H gN;have M:=Q.o.size;by_cases N:m < n
  ·obtain⟨p,hp⟩:∃ p,l[m]? = some p:=⟨_,aip (by rw [← HN.o];exact N)⟩;obtain⟨b,o,hA,hbl,hc⟩:=(HP.o.below Q.o).at_ (by rw [← HN.o];omega);subst hA;obtain⟨q0,q1,q2⟩:=hc m p hp;have a:=Pg l m p hp;have L:=Y4 l (m+1);obtain⟨t,T,nd⟩:=p;simp only at q0 q1 q2 a
   have I:=O a;have C:=congrArg List.length a;have y0:(0:Int)≤(m:Int):=by omega
   have y1:(m:Int) < (n:Int):=by omega
   have F:=O (show (dW (l.take m)).length+1+t.length≤1000000000 by
    have:=HT.o
    rw [C,aiA,aiA] at L
    omega)
   have D:=O (aZ.new wr 92 #[.string (aU t),.bool T,.int .i64 nd]);have R:=O (X.o.below ((Below.refl _ _).alloc (aiv _) (.cells #[.string (aU t),.bool T,.int .i64 nd] 92)));have k:=O (Q.o.alloc M (.cells #[.string (aU t),.bool T,.int .i64 nd] 92));clear hc hp a L C;cases T
   ·go_upto_region 5 with (fail)
    generalize wr.alloc (.cells #[.string (aU t),.bool false,.int .i64 nd] 92)=V at D R k ⊢
    have d0:=D.o.cell 0;have d1:=D.o.cell 1;go_wp2_with fail;refine (iy 49 2 w.heap.size w.heap.size kU [] (dW (l.take m)) t V R.o rfl (by have:=F.o;omega) k.o.size).mono ?_;rintro e w3⟨rfl,r,u,_⟩;have E:=O r;have U:=O (k.o.trans u);clear r u;go_wp2_with fail;exact⟨⟨m+1,by omega,by go_num,O (by rw [I.o];simpa using E.o),U⟩,by simp [intOf];omega⟩
   ·go_upto_region 5 with (fail)
    generalize wr.alloc (.cells #[.string (aU t),.bool true,.int .i64 nd] 92)=V at D R k ⊢
    have d0:=D.o.cell 0;have d1:=D.o.cell 1;go_wp2_with fail;refine (vv 49 2 w.heap.size w.heap.size kU [] (dW (l.take m)) 32 V R.o rfl (by have:=F.o;omega) k.o.size).mono ?_;rintro e w3⟨rfl,r,u,P⟩;have E:=O r;have U:=O (k.o.trans u);have HSP:=O P;clear r u d0 d1 P;have fF:aZ w3 wr.heap.size 92 #[.string (aU t),.bool true,.int .i64 nd]:=HSP.o.cell D.o (by have:=X.o.lt;omega) (by decide);have d0:=fF.cell 0;go_wp2_with fail;refine (iy 49 2 w.heap.size w.heap.size kU [] (dW (l.take m) ++ [32]) t w3 E.o rfl (by have:=F.o;rw [aiA];simp;omega) U.o.size).mono ?_;rintro e w4⟨rfl,J,K,_⟩;have mh:=O J;have BF:=O (U.o.trans K);clear J K;go_wp2_with fail;exact⟨⟨m+1,by omega,by go_num,O (by rw [I.o];simpa using mh.o),BF⟩,by simp [intOf];omega⟩
  ·obtain rfl:m=n:=by omega
   have Y:=O (show yN 49 w.heap.size w.heap.size [] (dW l) wr from by have h:=X.o;rw [HN.o,List.take_length] at h;exact h);clear N;go_wp2_with fail;refine (rR 49 w.heap.size w.heap.size [] (dW l) wr Y.o M).mono ?_;rintro e V⟨rfl,hb⟩;have Z:=O (Q.o.trans hb);clear hb;go_wp2_with fail;go_ret;exact⟨rfl,Z.o⟩
end
set_option linter.all false
section
open Go.RowKit Mist
attribute [local go_sem] au aN aV aM aG
def uN (w:World)(v:Value)(l:List Pz):Prop:=w.ownsRow 0 92 3 v l.length (fP l)
theorem uN.below {w a:World}{v:Value}{l:List Pz}(h:uN w v l)(b:Below w.heap.size w a):uN a v l:=own_below h b
theorem uN.form {w:World}{v:Value}{l:List Pz}(h:uN w v l):∃ A c,v=.slice A l.length c∧Rj w A l:=by
 obtain⟨A,c,rfl⟩:=dh h;have h:w.ownsRow 0 92 3 (.slice A l.length c) l.length (fP l):=h
 refine⟨A,c,rfl,⟨fun h0=>?_⟩⟩
 obtain⟨e,cap,hv,r⟩:=h.form h0;injection hv with b
 subst b
 refine⟨e,0,rfl,(World.ownsRow.lt h e rfl).2,fun k p a=>?_⟩
 have o:=(aiq.1 a).1;rw [Nat.zero_add]
 refine⟨?_,?_,?_⟩
 ·rw [h.cellAt (k * 3) (by omega)];exact tT l k 0 p _ a rfl
 ·rw [h.cellAt (k * 3+1) (by omega)];exact tT l k 1 p _ a rfl
 ·rw [h.cellAt (k * 3+2) (by omega)];exact tT l k 2 p _ a rfl
def lG (T:Tr)(f i:Nat):List Pz:=aH false (ah T f i)
theorem ae0 (l:List Pz):gH [] l=aH false l:=rfl
structure WX (W:World) (A Bi:Option Addr) (n:Nat) (xs:List NV) (its:List Int):Prop where
 t:lJ W A Bi xs its
 len:xs.length=n
 few:n≤1000
 pow:Pow W
 env:Env W
 ok:GD ⟨aj xs,its⟩
theorem Pow.on {w e:World}(h:Pow w)(b:Below w.heap.size w e):Pow e:=fun k a=>h k (b.trans (a.mono b.size))
theorem WX.below {W b:World}{A Bi:Option Addr}{n:Nat}{xs:List NV}{its:List Int}(X:WX W A Bi n xs its)(a:Below W.heap.size W b):WX b A Bi n xs its:=⟨X.t.below a,X.len,X.few,X.pow.on a,X.env.below a,X.ok⟩
theorem WX.nodes {W:World}{A Bi:Option Addr}{n:Nat}{xs:List NV}{its:List Int}(X:WX W A Bi n xs its):(⟨aj xs,its⟩:Tr).nodes.length=n:=by rw [← X.len];simp [aj]
theorem WX.bits {W:World}{A Bi:Option Addr}{n:Nat}{xs:List NV}{its:List Int}(X:WX W A Bi n xs its){i f:Nat}(hi:i < n)(a:i < f):(ah ⟨aj xs,its⟩ f i).length≤12012:=by
 have:=y9 X.ok.right X.ok.fo (i:=i) (f:=f) (by rw [X.nodes];exact hi) a
 have:=X.few
 omega
section
variable {W:World} {A Bi:Option Addr} {n c m d i f:Nat} {xs:List NV} {its:List Int}
theorem rM (X:WX W A Bi n xs its)(hi:i < n)(G:i+1 < f)(H:dB (nd (⟨aj xs,its⟩:Tr) i).kind=true) :
  Calls Tryz.prog 23 #[.agg #[.slice A n c,.slice Bi m d],.int .i64 i,.func (.func 24) #[] #[]] W fun e r=>∃ v,e=.returned v∧uN r v (lG ⟨aj xs,its⟩ f i)∧Below W.heap.size W r:=by
 have a:CX W W.heap.size A Bi n xs its:=⟨X.t,X.len,aiv _,by have:=X.few;omega,X.pow,X.env⟩;have u:(W.alloc (.cells #[.slice A n c,.slice Bi m d] 25)).heap.size=W.heap.size+1:=by simp
 have k:=O (((Below.refl W.heap.size W).alloc (aiv _) (.cells #[.slice A n c,.slice Bi m d] 25)).alloc (by simp) (.cells #[.slice A n c,.slice Bi m d,.slice none 0 0] 74))
 have C:PZ [] W.heap.size (W.heap.size+1) W ((W.alloc (.cells #[.slice A n c,.slice Bi m d] 25)).alloc (.cells #[.slice A n c,.slice Bi m d,.slice none 0 0] 74)) (.slice A n c) (.slice Bi m d) (.slice none 0 0) []:=by
  have D:=aZ.new (W.alloc (.cells #[.slice A n c,.slice Bi m d] 25)) 74 #[.slice A n c,.slice Bi m d,.slice none 0 0];rw [u] at D
  exact⟨D,World.ownsRow_nil _ _ _ _,k.o,by omega,by simp;omega,fun e F=>by cases F⟩
 have E:=O (Tw (g:=W.heap.size+1) (c:=c) (iv:=.slice Bi m d) a X.ok f i G hi H [] _ _ [] (O C) (by have:=X.bits hi (show i < f by omega);simp;omega));clear C k X a u;go_in
 go_wp2_with fail;refine E.o.mono ?_;rintro e J⟨I,rfl,b⟩;have K:J.cell? ⟨W.heap.size+1,2,none⟩=some I:=b.o.blk.cell 2;go_wp2_with fail;go_ret;exact⟨_,rfl,iC b.o.own (fun _ _=>aix _),b.o.IU⟩
def qj (T:Tr)(f:Nat)(its:List Int):List (List Pz):=its.map fun a=>lG T f a.toNat
structure yZ (w:World) (base:Nat) (v:Value) (ls:List (List Pz)) (vs:List Value):Prop where
 own:w.ownsRow base 52 1 v ls.length vs
 len:vs.length=ls.length
 row:∀ (k:Nat) (l:List Pz),ls[k]? = some l→∃ u,vs[k]? = some u∧uN w u l
theorem yZ.below {w r:World}{base:Nat}{v:Value}{ls:List (List Pz)}{vs:List Value}(h:yZ w base v ls vs)(o:Below w.heap.size w r):yZ r base v ls vs :=
 ⟨own_below h.own o,h.len,fun k l e=>by obtain⟨u,a,b⟩:=h.row k l e;exact⟨u,a,b.below o⟩⟩
theorem yZ.add {w C:World}{base:Nat}{v E:Value}{ls:List (List Pz)}{vs:List Value}(h:yZ w base v ls vs){u:Value}{l:List Pz}(t:uN w u l)(F:w.grownBy C v.ownBlock)(G:C.ownsRow base 52 1 E (ls.length+1) (vs ++ [u])):yZ C base E (ls ++ [l]) (vs ++ [u]):=by
 have keep:∀ {u:Value} {l:List Pz},uN w u l→uN C u l:=fun {u l} t=>World.ownsRow.kept (show w.ownsRow 0 92 3 u l.length (fP l) from t) F (eT (show w.ownsRow 0 92 3 u l.length (fP l) from t) h.own (by decide))
 refine⟨by rw [aiA];exact G,by simp [h.len],fun k D e=>?_⟩
 rcases Nat.lt_or_ge k ls.length with r | r
 ·rw [List.getElem?_append_left r] at e
  obtain⟨H,a,b⟩:=h.row k D e;exact⟨H,by rw [List.getElem?_append_left (by rw [h.len];exact r)];exact a,keep b⟩
 ·rw [List.getElem?_append_right r] at e
  have o:k - ls.length=0:=by
   rcases Nat.eq_zero_or_pos (k - ls.length) with h0 | h0
   ·exact h0
   ·rw [List.getElem?_eq_none (by simp;omega)] at e;cases e
  rw [o] at e
  have e:l=D:=by simpa using e
  subst e;exact⟨u,by rw [List.getElem?_append_right (by rw [h.len];omega),h.len,o];rfl,keep t⟩
theorem KJ:(Tryz.prog.info? 52).map (fun i=>(i.zero,i.size,i.bytes))=some (some (.slice none 0 0),1,24):=by kernel_rfl
theorem aaG (X:WX W A Bi n xs its)(hm:its.length=m)(hf:n+1≤f)(h0:1≤n∨m=0)(P:∀ a ∈ its,∃ i:Nat,a=(i:Int)∧i < n∧dB (nd (⟨aj xs,its⟩:Tr) i).kind=true)(hmm:m≤1000) :
  Calls Tryz.prog 92 #[.agg #[.slice A n c,.slice Bi m d]] W fun e W'=>∃ v vs,e=.returned v∧yZ W' W.heap.size v (qj ⟨aj xs,its⟩ (f+1) its) vs∧Below W.heap.size W W':=by
 obtain⟨i0,hi0,hz0,hz1,hz2⟩:=info_parts KJ;have HX:=O X;have HIT:=O P;have HM:=O hm;have J:=O ((Below.refl W.heap.size W).alloc (aiv _) (.cells #[.slice A n c,.slice Bi m d] 25));have M:=O (aZ.new W 25 #[.slice A n c,.slice Bi m d]);have HI:=O X.t.items;clear P X hm;go_in
 go_wp2_with fail;go_loopw [2,4,8] (fun v2 _ XB wr=>∃ (k:Nat) (vs:List Value),k≤m∧XB=.int .i64 k∧Hid (yZ wr W.heap.size v2 ((qj ⟨aj xs,its⟩ (f+1) its).take k) vs)∧Hid (Below W.heap.size W wr)∧Hid (aZ wr W.heap.size 25 #[.slice A n c,.slice Bi m d])) (fun _ _ XB _=>m - (intOf XB).toNat)
 case atStart=>exact⟨0,[],aix _,rfl,O ⟨World.ownsRow_nil _ _ _ _,rfl,fun k l e=>by simp at e⟩,J,M⟩
 case round =>
  obtain⟨k,vs,hkm,rfl,Y,I,L⟩:=hrel;clear J M;have hgp:(qj ⟨aj xs,its⟩ (f+1) its).length=m:=by unfold qj;rw [List.length_map,HM.o]
  by_cases R:k < m
  ·obtain⟨a,ha⟩:∃ a,its[k]? = some a:=⟨_,aip (by rw [HM.o];exact R)⟩;obtain⟨i,rfl,hin,U⟩:=HIT.o a (aiy ha);obtain⟨kb,ko,N,hkb,Q⟩:=HI.o.ex (by rw [HM.o];omega);have kq:wr.cell? ⟨kb,ko+k,none⟩=some (.int .i64 (i:Int)):=(I.o.cell (p:=⟨kb,_,none⟩) hkb).trans (Q k _ ha);have hbi:=O N;subst N;have c0:wr.cell? ⟨W.heap.size,0,none⟩=some (.slice A n c):=L.o.cell 0;have c1:wr.cell? ⟨W.heap.size,1,none⟩=some (.slice (some ⟨kb,ko,none⟩) m d):=L.o.cell 1;have T:=I.o.size
   have V:(qj ⟨aj xs,its⟩ (f+1) its).take (k+1)=(qj ⟨aj xs,its⟩ (f+1) its).take k ++ [lG ⟨aj xs,its⟩ (f+1) i]:=by
    rw [List.take_succ,show (qj ⟨aj xs,its⟩ (f+1) its)[k]? = some (lG ⟨aj xs,its⟩ (f+1) i) from by unfold qj;rw [List.getElem?_map,ha];rfl];rfl
   have yO:=O V;have K:=O (rM (c:=c) (m:=m) (d:=d) (HX.o.below I.o) hin (show i+1 < f+1 by omega) U);have y0:(0:Int)≤(k:Int):=by omega
   have y1:(k:Int) < (m:Int):=by omega
   have H:((qj ⟨aj xs,its⟩ (f+1) its).take k).length=k:=by rw [List.length_take];omega
   have jT:=O H;obtain⟨Av,cv,rfl⟩:=dh Y.o.own;rw [H];clear V Q ha U hgp H;go_wp2_with fail;refine K.o.mono ?_;rintro e w2⟨u,rfl,hu,C⟩;obtain⟨E,F,rfl⟩:=dh (show w2.ownsRow 0 92 3 u _ _ from hu);have HU:=O hu;have r:=O (Y.o.below C);have G:=O (I.o.trans (C.mono T));have yT:=O (L.o.below C L.o.lt);have Z:=O (show w2.ownsRow W.heap.size 52 1 (.slice Av k cv) k vs from by have:=r.o.own;rw [jT.o] at this;exact this);have hvl:vs.length=k:=by rw [r.o.len,jT.o]
   have hs2:=G.o.size
   generalize (lG ⟨aj xs,its⟩ (f+1) i).length=pl at *
   clear hu C K c0 c1 kq y0 y1 Y I L T
   go_wp2_with (at_builtin;go_loud (
    refine wpList_append_own _ rfl (.tmp 12) (.tmp 16) 124 rfl W.heap.size 52 i0 _ 1 24 Tryz.underlying124 hi0 hz0 hz1 hz2 rfl (by decide) _ k vs rfl (Z.o.alloc _) ⟨w2.heap.size,0,none⟩ 1 1 [.slice E pl F] rfl rfl (h_ w2 [.slice E pl F] _) (fun v hv=>by rw [List.mem_singleton.1 hv];rfl) (by simp only [maxLen];omega) (by omega) (by simp;omega) ?_;intro v3 w3 b D _))
   have kE:=O (((r.o.below ((Below.refl _ _).alloc (aiv _) (.cells #[.slice E pl F] 52))).add (HU.o.below ((Below.refl _ _).alloc (aiv _) (.cells #[.slice E pl F] 52))) (by rw [jT.o];exact D) (by rw [jT.o];exact b)));have HB3:=O ((G.o.alloc hs2 (.cells #[.slice E pl F] 52)).grown D (by simp;omega) (fun z hz=>(Z.o.lt z hz).1));have Mr:=O ((yT.o.alloc (.cells #[.slice E pl F] 52)).grown D (fun e=>bJ (Z.o.alloc (.cells #[.slice E pl F] 52)) (yT.o.alloc (.cells #[.slice E pl F] 52)) (by decide) e.symm));rw [← yO.o] at kE
   clear b D r G yT HU Z;go_wp2_with fail;exact⟨⟨k+1,_,by omega,by go_num,kE,HB3,Mr⟩,by simp [intOf];omega⟩
  ·obtain rfl:k=m:=by omega
   have HLF:=O (show yZ wr W.heap.size _ (qj ⟨aj xs,its⟩ (f+1) its) vs from by have h:=Y.o;rw [aiz (by omega)] at h;exact h);have y1:¬ (k:Int) < (k:Int):=by omega
   clear R;go_wp2_with fail;go_ret;exact⟨_,rfl,⟨_,HLF.o⟩,I.o⟩
end
end
set_option linter.all false
end Go.Proofs.YtajfdjikimiapaaGreatDoor
namespace Mist
def jA (s:Bs)(k:Nat):Bs × Nat:=if 2000 < s.length∨800 < k then ([],5) else (s,0)
def kQ:List (List Pz)→Bs
 | []=>[]
 | l :: r=>dW l ++ 10 :: kQ r
def oh (ls:List (List Pz)):Nat:=(ls.map List.length).sum
theorem Kr (a:List (List Pz))(l:List Pz):kQ (a ++ [l])=kQ a ++ (dW l ++ [10]):=by
 induction a with
 | nil=>simp [kQ]
 | cons x a b=>simp [kQ,b]
theorem Pn (a:List (List Pz))(l:List Pz):oh (a ++ [l])=oh a+l.length:=by simp [oh]
end Mist
