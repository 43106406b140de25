/-
  A part of the proof.
-/
import Derived.Test.YtflnfhhgamldhaaGreatDoorS20
set_option linter.all false
set_option maxRecDepth 100000
set_option maxHeartbeats 4000000
set_option linter.all false
namespace Go.Proofs.YtflnfhhgamldhaaGreatDoor
section
open Go.RowKit Mist
attribute [local go_sem] ah aM aV au ak
section
variable {S:Sz} {B g n c f i j q b2 b3 b4 b6 h:Nat} {cs:Array Value} {w W:World} {A Bi:Option Addr} {nv iv pv:Value} {ps l:List Pz} {xs:List NV} {its:List Int} {x y:NV}
theorem Vj (H:Hid (PZ S B g w W (.slice A n c) iv pv ps))(X:CX w B A Bi n xs its)(K:KX w B g A n c iv xs its f i x)(hk:x.1.kind=42)(hf:0 < f){t:Nat}(hm1:x.1.kids.length=t+2)(F:PK w B g A n c iv xs its f t x)(hq:x.1.kids[t]? = some ((q:Nat):Int))(G:MC 97 w B g A n c iv ⟨aF xs,its⟩ f q)(E:KE w B g A n c iv xs its f x (t+1))(n0:-1000000≤x.1.n)(n1:x.1.n≤1000000)
  (hl:ps.length+(cZ ⟨aF xs,its⟩ (aQ ⟨aF xs,its⟩ f) i).length≤1000000) :
  Calls Tryz.prog 23 #[.pointer (some ⟨g,0,none⟩),.int .i64 i] W (l7 S B g w (.slice A n c) iv (iG ps (cZ ⟨aF xs,its⟩ (aQ ⟨aF xs,its⟩ f) i))):=by
 have en:=EF (T:=⟨aF xs,its⟩) (B:=aQ ⟨aF xs,its⟩ f) (i:=i) (by rw [bI its K.hx];exact hk)
 try rw [bI its K.hx] at en
 rw [en] at hl ⊢
 clear en;rw [hm1,show t+2 - 2=t by omega,show t+2 - 1=t+1 by omega] at hl ⊢
 obtain⟨U,hU⟩:∃ U,U=(if 0 < x.1.n then [lz [117,112,116,111] (-1),lz (Go.Lib.itoa x.1.n) (-1)] else ([]:List Pz)):=⟨_,rfl⟩;rw [← hU] at hl ⊢
 have HU:=O hU;clear hU;have hi:i < n:=by rw [← X.len];exact (akV.1 K.hx).1
 obtain⟨b,o,hA,hN⟩:=(X.at_ H.o).nodes (by have:=X.len;omega);have HB:=O hN.lt;obtain⟨Q,kc,u,hkl,hki⟩:=X.kids H.o K.hx;obtain⟨m,hm⟩:∃ m,m=x.1.kids.length:=⟨_,rfl⟩;subst hA;have y0:(0:Int)≤(i:Int):=by omega
 have y1:(i:Int) < (n:Int):=by omega
 have hg:=H.o.blk.lt;have EB:=O (show lg x=#[.int .u8 42,.string (aH x.1.text),.int .i64 x.1.n,.slice Q m kc,.int .i64 x.1.at_] from by unfold lg;rw [hk,u,hm];rfl);have jR:=wV i H;have L:=Rq W g i;have M:=O (Ro W g i);have N:=O hN;have xL:=O u;have tV:=O (show x.1.kind=42 from hk);have V:=O hl;have HX:=O X;have J:=O K;have HM:=O hm;have HF:=O F;have Z:=O hq;have HG:=O G;have HE:=O E;have Hn0:=O n0;have Hn1:=O n1;have Y:=O hk;have af4:=O hm1;have hbw:=HB.o;have Kg:=O (show x.2=.slice Q m kc from by rw [u,hm]);have Ke:=O hkl;clear H u hki hl X K hm hN F hq G E n0 n1;go_in
 go_upto_region 1 with (fail)
 generalize (W.alloc (.cells #[.pointer (some ⟨g,0,none⟩)] 58)).alloc (.cells #[.int .i64 (i:Nat)] 3)=w0 at jR L M ⊢
 have c0:w0.cell? ⟨g,0,none⟩=some (.slice (some ⟨b,o,none⟩) n c):=jR.o.blk.cell 0;obtain⟨d2,d3⟩:=kM jR;have lM:=O L;have ug:g < w0.heap.size:=by omega
 have ub:b < w0.heap.size:=by omega
 have uW:W.heap.size < w0.heap.size:=by omega
 have zh:W.heap.size+1 < w0.heap.size:=by omega
 clear L;have k0:w0.cell? ⟨b,o+i * 5,none⟩=some (.int .u8 42):=by have h:=(N.o.below M.o).c0 i x J.o.hx;rw [tV.o] at h;exact h
 have k1:w0.cell? ⟨b,o+i * 5+1,none⟩=some (.string (aH x.1.text)):=(N.o.below M.o).c1 i x J.o.hx;have k2:w0.cell? ⟨b,o+i * 5+2,none⟩=some (.int .i64 x.1.n):=(N.o.below M.o).c2 i x J.o.hx;have k4:w0.cell? ⟨b,o+i * 5+4,none⟩=some (.int .i64 x.1.at_):=(N.o.below M.o).c4 i x J.o.hx;have k3:w0.cell? ⟨b,o+i * 5+3,none⟩=some (.slice Q m kc):=by rw [HM.o,← xL.o];exact (N.o.below M.o).c3 i x J.o.hx
 go_region
 have P:=Rp i #[.int .u8 42,.string (aH x.1.text),.int .i64 x.1.n,.slice Q m kc,.int .i64 x.1.at_] lM.o jR;rw [lM.o]
 generalize (w0.alloc (.cells #[.int .u8 42,.string (aH x.1.text),.int .i64 x.1.n,.slice Q m kc,.int .i64 x.1.at_] 50)).drew=r at P ⊢
 clear hbw c0 k0 k1 k2 k3 k4 d2 d3 jR uW zh ug ub lM M N HB y0 y1;obtain⟨c2,c3,a,v,C⟩:=dJ P;obtain⟨u0,u1,u2⟩:=xlt P;obtain⟨D,I⟩:=rR P;have hmm:=@run_makeMap Tryz.prog;have i0:=P6 r;have i1:=P7 r;have i2:=P8 r;have i3:=P9 r;have i4:=P_ r;have i5:=Qa r;have i6:=Qb r;have hlk:(Instr.lookup 103 (.map (some r.heap.size)) (.int .u8 42) false).run Tryz.prog (r.alloc (.map (iC (fP.take 7) 0).toArray 7))=.ok (.string (aH [102,117,110])) (r.alloc (.map (iC (fP.take 7) 0).toArray 7)):=DZ r 42 _ rfl;go_wp2_with fail;refine (zC (O (P.o.alloc _)) [102,117,110] (i:Int) (by have:=V.o;simp [aj] at this;omega)).mono ?_;rintro e w1⟨wP,rfl,H1⟩;clear hlk hmm i0 i1 i2 i3 i4 i5 i6 u0 u1 u2 c2 c3 a v C D I P;obtain⟨c2,c3,a,v,C⟩:=dJ H1;obtain⟨D,I⟩:=rR H1;go_wp2_with fail;refine (Gf H1 x.1.text (-1) (by simp) (by have:=V.o;simp [aj] at this ⊢;omega)).mono ?_;rintro e w2⟨mZ,rfl,R⟩;clear c2 c3 a v C D I H1;obtain⟨c2,c3,a,v,C⟩:=dJ R;obtain⟨D,I⟩:=rR R
 have k:Calls Tryz.prog 58 #[.pointer (some ⟨g,0,none⟩),.int .i64 i,.agg (lg x)] w2 (l7 (xS W.heap.size g i #[.int .u8 42,.string (aH x.1.text),.int .i64 x.1.n,.slice Q m kc,.int .i64 x.1.at_] S) B g w (.slice (some ⟨b,o,none⟩) n c) iv (iG ps ([tz [102,117,110] (i:Int),lz x.1.text (-1)] ++ tz [40] (-1) :: (dI false (ig ⟨aF xs,its⟩ (aQ ⟨aF xs,its⟩ f) i t) ++ tz [41] (-1) :: tz [58] (-1) :: (dI true (eO ⟨aF xs,its⟩ (aQ ⟨aF xs,its⟩ f) i t) ++ (U ++ lz [61] (-1) :: dI true (eO ⟨aF xs,its⟩ (aQ ⟨aF xs,its⟩ f) i (t+1)))))))):=by
  by_cases hs:0 < x.1.n
  ·have e:=HU.o;rw [if_pos hs] at e;have hL:=V.o;rw [e] at hL ⊢;exact aeK R (by simp) HX.o J.o Y.o af4.o hf HF.o Z.o HG.o HE.o Hn0.o Hn1.o hs (by simp [aj] at hL ⊢;omega)
  ·have e:=HU.o;rw [if_neg hs] at e;have hL:=V.o;rw [e] at hL ⊢;exact aeJ R (by simp) HX.o J.o Y.o af4.o hf HF.o Z.o HG.o HE.o Hn0.o Hn1.o hs (by simp [aj] at hL ⊢;omega)
 rw [EB.o] at k
 have HFU:=O k;clear k;go_wp2_with fail;refine (HFU.o).mono ?_;rintro e w3⟨tX,rfl,H3⟩;clear c2 c3 a v C D I R;obtain⟨c2,c3,a,v,C⟩:=dJ H3;obtain⟨D,I⟩:=rR H3;go_wp2_with fail;refine (vR H3 [59] (-1) (by simp) (by have:=V.o;simp [aj] at this ⊢;omega)).mono ?_;rintro e w4⟨Cw,rfl,H4⟩;clear c2 c3 a v C D I H3;obtain⟨c2,c3,a,v,C⟩:=dJ H4;obtain⟨D,I⟩:=rR H4;go_wp2_with fail;go_end0
 exact⟨_,rfl,O (by have h:=H4.o.xe;simpa [List.append_assoc,ig,tz,lz] using h)⟩
theorem aiM {m a:Nat}{fv:Value}{Q:Ending→World→Prop}(h:m=a)(b:Calls Tryz.prog 61 #[.pointer (some ⟨g,0,none⟩),.int .i64 (a:Nat),fv] W Q):Calls Tryz.prog 61 #[.pointer (some ⟨g,0,none⟩),.int .i64 (m:Nat),fv] W Q:=by
 rw [h];exact b
theorem ki2 (H:Hid (PZ S B g w W (.slice A n c) iv pv ps))(X:CX w B A Bi n xs its)(K:KX w B g A n c iv xs its f i x)(h2:(b2,58,#[.pointer (some ⟨g,0,none⟩)]) ∈ S)(h3:(b3,3,#[.int .i64 (i:Nat)]) ∈ S)
  (r:j < x.1.kids.length) (E:KE w B g A n c iv xs its f x j) (a:ps.length+(eO ⟨aF xs,its⟩ (aQ ⟨aF xs,its⟩ f) i j).length≤1000000) :
  Calls Tryz.prog 62 #[.int .i64 j,.pointer (some ⟨b2,0,none⟩),.pointer (some ⟨b3,0,none⟩)] W (l7 S B g w (.slice A n c) iv (iG ps (eO ⟨aF xs,its⟩ (aQ ⟨aF xs,its⟩ f) i j))):=by
 have c2:=(H.o.kp _ h2).1.cell 0;have c3:=(H.o.kp _ h3).1.cell 0;simp only at c2 c3
 have b:=O (kd1 H X K r E a);clear a E K X;go_in
 go_wp2_with fail;refine b.o.mono ?_;rintro e u⟨t,rfl,k⟩;go_wp2_with fail;go_end0
 exact⟨t,rfl,k⟩
theorem Vi (H:Hid (PZ S B g w W (.slice A n c) iv pv ps))(X:CX w B A Bi n xs its)(K:KX w B g A n c iv xs its f i x)(hk:x.1.kind=46)(hf:0 < f){qn:Nat}(V:x.1.n=((qn+1:Nat):Int))(hqn:qn < 8)(E:∀ j,j < x.1.kids.length→KE w B g A n c iv xs its f x j)
  (U:ps.length+(cZ ⟨aF xs,its⟩ (aQ ⟨aF xs,its⟩ f) i).length≤1000000) :
  Calls Tryz.prog 23 #[.pointer (some ⟨g,0,none⟩),.int .i64 i] W (l7 S B g w (.slice A n c) iv (iG ps (cZ ⟨aF xs,its⟩ (aQ ⟨aF xs,its⟩ f) i))):=by
 have en:=EK (T:=⟨aF xs,its⟩) (B:=aQ ⟨aF xs,its⟩ f) (i:=i) (by rw [bI its K.hx];exact hk)
 try rw [bI its K.hx] at en
 rw [en] at U ⊢
 clear en;have Z:x.1.n.toNat=qn+1:=by rw [V];rfl
 rw [Z] at U ⊢
 have ws:wrap64 (x.1.n - 1)=(qn:Int):=by rw [V];unfold wrap64;omega
 have wt:IntKind.i64.wrap (x.1.n - 1)=(qn:Int):=by rw [V,IntWalk.i64_in _ (by omega)];omega
 obtain⟨QT,G⟩:∃ QT,QT=mM.getD (qn+1) []:=⟨_,rfl⟩;rw [← G] at U ⊢
 have HQT:=O G;clear G Z;have hi:i < n:=by rw [← X.len];exact (akV.1 K.hx).1
 obtain⟨b,o,hA,hN⟩:=(X.at_ H.o).nodes (by have:=X.len;omega);have HB:=O hN.lt;obtain⟨Q,kc,v,hkl,hki⟩:=X.kids H.o K.hx;obtain⟨m,hm⟩:∃ m,m=x.1.kids.length:=⟨_,rfl⟩;subst hA;have y0:(0:Int)≤(i:Int):=by omega
 have y1:(i:Int) < (n:Int):=by omega
 have hg:=H.o.blk.lt;have EB:=O (show lg x=#[.int .u8 46,.string (aH x.1.text),.int .i64 x.1.n,.slice Q m kc,.int .i64 x.1.at_] from by unfold lg;rw [hk,v,hm];rfl);have jR:=wV i H;have I:=Rq W g i;have J:=O (Ro W g i);have N:=O hN;have xL:=O v;have tV:=O (show x.1.kind=46 from hk);have HL:=O U;have HX:=O X;have F:=O K;have HM:=O hm;have HE:=O E;have Hhn:=O V;have hbw:=HB.o;have Kg:=O (show x.2=.slice Q m kc from by rw [v,hm]);have Ke:=O hkl;clear H v hki U X K hm hN E V;go_in
 go_upto_region 1 with (fail)
 generalize (W.alloc (.cells #[.pointer (some ⟨g,0,none⟩)] 58)).alloc (.cells #[.int .i64 (i:Nat)] 3)=w0 at jR I J ⊢
 have c0:w0.cell? ⟨g,0,none⟩=some (.slice (some ⟨b,o,none⟩) n c):=jR.o.blk.cell 0;obtain⟨d2,d3⟩:=kM jR;have lM:=O I;have ug:g < w0.heap.size:=by omega
 have ub:b < w0.heap.size:=by omega
 have uW:W.heap.size < w0.heap.size:=by omega
 have zh:W.heap.size+1 < w0.heap.size:=by omega
 clear I;have k0:w0.cell? ⟨b,o+i * 5,none⟩=some (.int .u8 46):=by have h:=(N.o.below J.o).c0 i x F.o.hx;rw [tV.o] at h;exact h
 have k1:w0.cell? ⟨b,o+i * 5+1,none⟩=some (.string (aH x.1.text)):=(N.o.below J.o).c1 i x F.o.hx;have k2:w0.cell? ⟨b,o+i * 5+2,none⟩=some (.int .i64 x.1.n):=(N.o.below J.o).c2 i x F.o.hx;have k4:w0.cell? ⟨b,o+i * 5+4,none⟩=some (.int .i64 x.1.at_):=(N.o.below J.o).c4 i x F.o.hx;have k3:w0.cell? ⟨b,o+i * 5+3,none⟩=some (.slice Q m kc):=by rw [HM.o,← xL.o];exact (N.o.below J.o).c3 i x F.o.hx
 go_region
 have P:=Rp i #[.int .u8 46,.string (aH x.1.text),.int .i64 x.1.n,.slice Q m kc,.int .i64 x.1.at_] lM.o jR;rw [lM.o]
 generalize (w0.alloc (.cells #[.int .u8 46,.string (aH x.1.text),.int .i64 x.1.n,.slice Q m kc,.int .i64 x.1.at_] 50)).drew=k at P ⊢
 clear hbw c0 k0 k1 k2 k3 k4 d2 d3 jR uW zh ug ub lM J N HB y0 y1;obtain⟨c2,c3,a,t,u⟩:=dJ P;obtain⟨u0,u1,u2⟩:=xlt P;obtain⟨C,D⟩:=rR P;have hmm:=@run_makeMap Tryz.prog;have i0:=P6 k;have i1:=P7 k;have i2:=P8 k;have i3:=P9 k;have i4:=P_ k;have i5:=Qa k;have i6:=Qb k;have hlk:(Instr.lookup 103 (.map (some k.heap.size)) (.int .u8 46) false).run Tryz.prog (k.alloc (.map (iC (fP.take 7) 0).toArray 7))=.ok (.string (aH [97,115,107])) (k.alloc (.map (iC (fP.take 7) 0).toArray 7)):=DZ k 46 _ rfl;go_wp2_with fail;refine (zC (O (P.o.alloc _)) [97,115,107] (i:Int) (by have:=HL.o;simp [aj] at this;omega)).mono ?_;rintro e w1⟨wP,rfl,L⟩;clear hlk hmm i0 i1 i2 i3 i4 i5 i6 u0 u1 u2 c2 c3 a t u C D P;obtain⟨c2,c3,a,t,u⟩:=dJ L;obtain⟨C,D⟩:=rR L;have R:=O fun (W2:World) (hb:Below w1.heap.size w1 W2)=>VJ HX.o.env (L.o.Ki.mono HX.o.b) (Nat.le_trans HX.o.b L.o.lw) hqn hb
 have y0:(0:Int)≤(qn:Int):=by omega
 have y1:(qn:Int) < ((8:Nat):Int):=by omega
 have y2:(qn:Int) < 8:=by omega
 go_upto_region 24 with (fail)
 go_region_with ((first
   | (go_at_call 60
      refine (R.o _ (by (repeat (first|(with_reducible exact Below.refl _ _)|(with_reducible refine Below.drew ?_)));done)).mono ?_;rintro e wA⟨hqb,rfl,Y,hb⟩;rw [← HQT.o] at Y
      have M:=O (L.o.below hb);clear c2 c3 a t u C D hb;obtain⟨c2,c3,a,t,u⟩:=dJ M)
   | (go_at_call 52
      refine (Gf (S:=xS W.heap.size g i #[.int .u8 46,.string (aH x.1.text),.int .i64 x.1.n,.slice Q m kc,.int .i64 x.1.at_] S) (by first | exact M | exact O M.o.drew | exact O M.o.drew.drew | exact O (M.o.drewN _)) QT (-1) (by simp) (by have:=HL.o;simp [aj] at this ⊢;omega)).mono ?_;rintro e w2⟨mZ,rfl,H2⟩;clear c2 c3 a t u Y;obtain⟨c2,c3,a,t,u⟩:=dJ H2)))
 all_goals
  clear M L R y0 y1 y2 ws wt;obtain⟨C,D⟩:=rR H2;go_wp2_with fail;refine (Sb (r:=ig ⟨aF xs,its⟩ (aQ ⟨aF xs,its⟩ f) i x.1.kids.length) (aiM HM.o (ls1 H2 62 #[.pointer (some ⟨W.heap.size,0,none⟩),.pointer (some ⟨W.heap.size+1,0,none⟩)] (eO ⟨aF xs,its⟩ (aQ ⟨aF xs,its⟩ f) i) x.1.kids.length (F.o.ne hf 0 (.inr rfl)) Ke.o (by have:=HL.o;rw [eU];simp [aj,ig] at this ⊢;omega) (fun j W'=>by kernel_rfl) (fun j W' pv' qs hj hq h=>ki2 h HX.o F.o (Gn _ _ _ _ _) (Kc _ _ _ _ _) hj (HE.o j hj) hq))) (by simp)).mono ?_;rintro e w3⟨tX,rfl,H3⟩;clear c2 c3 a t u C D H2;obtain⟨c2,c3,a,t,u⟩:=dJ H3;obtain⟨C,D⟩:=rR H3;go_wp2_with fail;refine (vR H3 [59] (-1) (by simp) (by have:=HL.o;simp [aj] at this ⊢;omega)).mono ?_;rintro e w4⟨Cw,rfl,H4⟩;clear c2 c3 a t u C D H3;obtain⟨c2,c3,a,t,u⟩:=dJ H4;obtain⟨C,D⟩:=rR H4;go_wp2_with fail;go_end0
  exact⟨_,rfl,O (by have h:=H4.o.xe;simpa [List.append_assoc,ig,tz,lz] using h)⟩
end
end
set_option linter.all false
section
open Go.RowKit Mist
theorem Vh {B g n c:Nat}{w:World}{A Bi:Option Addr}{iv:Value}{xs:List NV}{its:List Int}(X:CX w B A Bi n xs its)(a:O_ ⟨aF xs,its⟩)(f i:Nat)(hif:i+1 < f)(o:i < n)(ht:fM (nd (⟨aF xs,its⟩:Tr) i).kind=true):MC 23 w B g A n c iv ⟨aF xs,its⟩ f i:=by
 obtain⟨f,rfl⟩:∃ f',f=f'+1:=⟨f - 1,by omega⟩;have R:(⟨aF xs,its⟩:Tr).nodes.length=n:=by rw [← X.len];simp [aF]
 obtain⟨x,hx⟩:=lF (xs:=xs) (i:=i) (by rw [X.len];exact o);have F:=bI its hx;have Q:=rtZ (a.right i (by rw [R];exact o));have hN:=a.num i (by rw [R];exact o);rw [F] at hN
 have K:KX w B g A n c iv xs its f i x:=O_.kx X a hx (by omega);have G:0 < f:=by omega
 have kid:∀ j,j < x.1.kids.length→∃ q y,x.1.kids[j]? = some ((q:Nat):Int)∧xs[q]? = some y∧q < i∧q < n∧jY x.1 j y.1.kind=true∧(y.1.kind=1→y.1.n < 0→x.1.kind=40):=by
  intro j C;obtain⟨q,b,e2⟩:=a.kid (i:=i) (j:=j) (by rw [R];exact o) (by rw [F];exact C);rw [F] at b
  obtain⟨y,hy⟩:=lF (xs:=xs) (i:=q) (by rw [X.len];omega);have h1:=Q.kid j (by rw [F];exact C);have h2:=Q.neg j (by rw [F];exact C);rw [F,akY,b] at h1 h2
  have h1:jY x.1 j (nd (⟨aF xs,its⟩:Tr) q).kind=true:=h1;have h2:(nd (⟨aF xs,its⟩:Tr) q).kind=1→(nd (⟨aF xs,its⟩:Tr) q).n < 0→x.1.kind=40:=h2;rw [bI its hy] at h1 h2
  exact⟨q,y,b,hy,e2,by omega,h1,h2⟩
 have EX:∀ (j q:Nat) (y:NV),x.1.kids[j]? = some ((q:Nat):Int)→xs[q]? = some y→ji y.1.kind=true→(y.1.kind=1→y.1.n < 0→x.1.kind=40)→x.1.kind ≠ 40→q < i→XC w B g A n c iv ⟨aF xs,its⟩ f q:=fun j q y b hy he h2 vk hq =>
  YQ X a f q (by omega) (by omega) (by rw [bI its hy];exact he) (fun k=>by
   rw [bI its hy] at k ⊢
   rcases Int.lt_or_le y.1.n 0 with h5 | h5
   ·exact absurd (h2 k h5) vk
   ·exact h5)
 intro S W pv ps H v;rw [show aQ ⟨aF xs,its⟩ (f+1) i=cZ ⟨aF xs,its⟩ (aQ ⟨aF xs,its⟩ f) i from rfl] at v ⊢
 have I:=Q.many;have yB:=Q.num;rw [F] at ht I yB
 have V:(x.1.kind=43∨x.1.kind=44∨x.1.kind=46)→∀ j,j < x.1.kids.length→KE w B g A n c iv xs its f x j:=by
  intro hk j C q e;obtain⟨D,y,b,hy,h1,h2,h3,h4⟩:=kid j C;rw [e] at b
  injection b with b
  have:q=D:=by omega
  subst this;refine EX j q y e hy ?_ h4 (by omega) h1;unfold jY at h3
  rwa [if_neg (by omega),if_neg (by omega),if_neg (by omega),if_neg (by omega),if_neg (by omega)] at h3
 simp [fM] at ht
 rcases (by omega:x.1.kind=40∨x.1.kind=41∨x.1.kind=42∨x.1.kind=43∨x.1.kind=44∨x.1.kind=45∨x.1.kind=46) with k | k | k | k | k | k | k
 ·have h2:=Bu (by omega) _ k I;obtain⟨q,y,b,hy,a1,P,u,a4⟩:=kid 0 (by omega);obtain⟨r,z,J,T,b1,b2,b3,b4⟩:=kid 1 (by omega)
  have num:∀ {q:Nat} {y:NV},xs[q]? = some y→y.1.kind=1→-9999≤y.1.n∧y.1.n≤9999:=fun {q y} hy hk=>by
   have:=(rtZ (a.right q (by rw [R,← X.len];exact (akV.1 hy).1))).num
   rw [bI its hy] at this
   exact afc hk this
  have U:∀ {j t:Nat},jY x.1 j t=true→t=1:=fun {j t} h=>by
   unfold jY at h
   rw [if_neg (by omega),if_neg (by omega),if_neg (by omega),if_pos k] at h
   simpa using h
  exact JN H X K k G h2 b hy J T ⟨by omega,by omega⟩ ⟨U u,U b3⟩ (num hy (U u)) (num T (U b3)) v
 ·refine Qx H X K k G (adR (.inr (.inr rfl)) _ k I) (fun j q C e=>?_) v;obtain⟨D,y,b,hy,a1,P,u,a4⟩:=kid j C;rw [e] at b
  injection b with b
  have:q=D:=by omega
  subst this;refine H_ X a f q (by omega) P ?_;rw [bI its hy];unfold jY at u
  rw [if_neg (by omega),if_pos k] at u
  simpa using u
 ·have h2:=aac _ k I;obtain⟨M,L⟩:∃ m,x.1.kids.length=m+2:=⟨x.1.kids.length - 2,by omega⟩;have h8:=hN.fn k;obtain⟨q,y,b,hy,a1,P,u,a4⟩:=kid M (by omega)
  have Z:∀ {j t:Nat},jY x.1 j t=true→(if j+1=M+2 then ji t else if j+2=M+2 then jf t else decide (t=34))=true:=fun {j t} h=>by
   unfold jY at h
   rw [if_neg (by omega),if_neg (by omega),if_neg (by omega),if_neg (by omega),if_pos k,L] at h
   exact h
  have t1:=Z u;rw [if_neg (by omega),if_pos rfl] at t1
  refine Vj H X K k G L (fun j q C e=>?_) b (Ma X a f q (by omega) P (by rw [bI its hy];exact t1)) (fun D e=>?_) (by omega) (by omega) v
  ·obtain⟨D,y',E,Y,b1,b2,b3,b4⟩:=kid j (by omega);rw [e] at E
   injection E with E
   have:q=D:=by omega
   subst this;have N:=Z b3;rw [if_neg (by omega),if_neg (by omega)] at N
   exact H_ X a f q (by omega) b2 (by rw [bI its Y];simpa using N)
  ·obtain⟨r,z,J,T,b1,b2,b3,b4⟩:=kid (M+1) (by omega);rw [e] at J
   injection J with J
   have:D=r:=by omega
   subst this;have N:=Z b3;rw [if_pos rfl] at N
   exact EX (M+1) D z e T N b4 (by omega) b1
 ·exact Vk H X K k G (many1 (by decide) _ k I) (V (by omega)) v
 ·exact Ga H X K k G (many1 (by decide) _ k I) (V (by omega)) v
 ·exact Gb H X K k G v
 ·have h8:=adS k yB;exact Vi H X K k G (qn:=(x.1.n - 1).toNat) (by omega) (by omega) (V (by omega)) v
end
section
open Go.RowKit Mist
attribute [local go_sem] ah aM aV au ak
structure xq (T n:Nat):Prop where
 lies:liesAt Tryz.prog Tryz.prog.depth T (n / Tryz.prog.cellsOf T) 0 62 1=true
 ne:T ≠ 5
def vJ (T B g:Nat)(p:Value)(rest:List Value)(bs:Bs)(w:World):Prop :=
 B≤g∧∃ v,w.heap[g]? = some (.cells (p :: v :: rest).toArray T (0,0))∧w.ownsRow B 5 1 v bs.length (Lib.byteCells bs)∧v.ownBlock ≠ some g
def zo (T B g:Nat)(rest:List Value)(bs:Bs)(w:World):Prop :=
 vJ T B g (.pointer none) rest bs w∨vJ T B g (.pointer (some ⟨g,0,none⟩)) rest bs w
theorem xX:(Tryz.prog.info? 62).map (·.size)=some 2:=by kernel_rfl
theorem GL:(Tryz.prog.info? 5).map (fun i=>(i.zero,i.size,i.bytes))=some (some (.int .u8 0),1,1):=by kernel_rfl
theorem Ph:Tryz.prog.cellsOf 5=1:=by kernel_rfl
theorem zo.any {T B g:Nat}{rest:List Value}{a:Bs}{w:World}(h:zo T B g rest a w):∃ p,vJ T B g p rest a w:=by
 rcases h with h | h
 ·exact⟨_,h⟩
 ·exact⟨_,h⟩
theorem vJ.lt {T B g:Nat}{p:Value}{rest:List Value}{b:Bs}{w:World}(h:vJ T B g p rest b w):g < w.heap.size:=by
 obtain⟨_,v,e,_⟩:=h;rcases Nat.lt_or_ge g w.heap.size with a | a
 ·exact a
 ·simp [Array.getElem?_eq_none a] at e
theorem vJ.used {T B g:Nat}{p:Value}{rest:List Value}{o:Bs}{w:World}(h:vJ T B g p rest o w)(q:Value):vJ T B g q rest o (w.setCell ⟨g,0,none⟩ q):=by
 obtain⟨r,v,t,b,a⟩:=h
 refine⟨r,v,?_,?_,a⟩
 ·simp [World.setCell,Array.getElem?_modify,t]
 ·refine b.kept (row:=some g) ⟨rfl,rfl,rfl,by simp [World.setCell],fun k _ u=>Below.heap_setCell _ _ _ _ (fun e=>u (by simp [e]))⟩ ?_;exact Or.inr a
theorem vJ.put {T B g:Nat}{p v r:Value}{rest:List Value}{bs':Bs}{w:World}(u:B≤g)(t:w.heap[g]? = some (.cells (p :: v :: rest).toArray T (0,0)))(a:w.ownsRow B 5 1 r bs'.length (Lib.byteCells bs'))(o:T ≠ 5) :
  vJ T B g p rest bs' (w.setCell ⟨g,1,none⟩ r):=by
 have b:=Lib.ownBlock_ne a t o
 refine⟨u,r,?_,?_,b⟩
 ·simp [World.setCell,Array.getElem?_modify,t]
 ·exact a.kept (row:=some g) ⟨rfl,rfl,rfl,by simp [World.setCell],fun k _ C=>Below.heap_setCell _ _ _ _ (fun e=>C (by simp [e]))⟩ (Or.inr b)
theorem vJ.below {T B g:Nat}{p:Value}{rest:List Value}{o:Bs}{w t:World}(h:vJ T B g p rest o w)(r:Below w.heap.size w t):vJ T B g p rest o t:=by
 have e:=h.lt;obtain⟨u,v,b,a,k⟩:=h;exact⟨u,v,(r.block g e).trans b,own_below a r,k⟩
theorem zo.below {T B g:Nat}{rest:List Value}{a:Bs}{w e:World}(h:zo T B g rest a w)(b:Below w.heap.size w e):zo T B g rest a e:=by
 rcases h with h | h
 ·exact .inl (h.below b)
 ·exact .inr (h.below b)
theorem zo.lt {T B g:Nat}{rest:List Value}{a:Bs}{w:World}(h:zo T B g rest a w):g < w.heap.size:=by
 obtain⟨p,h⟩:=h.any;exact h.lt
theorem zo.fresh (T:Nat)(rest:List Value)(w:World):zo T w.heap.size w.heap.size rest [] (w.alloc (.cells (.pointer none :: .slice none 0 0 :: rest).toArray T)) :=
 Or.inl ⟨ak0 _,.slice none 0 0,heap_alloc_new w _,World.ownsRow_nil _ _ _ _,by simp [Value.ownBlock]⟩
structure lN (g:Nat) (w w':World):Prop where
 size:w.heap.size≤w'.heap.size
 block:∀ k,k < w.heap.size→k ≠ g→(∀ cs fr,w.heap[k]? ≠ some (.cells cs 5 fr))→w'.heap[k]? = w.heap[k]?
theorem lN.refl (g:Nat)(w:World):lN g w w:=⟨ak0 _,fun _ _ _ _=>rfl⟩
theorem lN.trans {g:Nat}{a b c:World}(h:lN g a b)(k:lN g b c):lN g a c :=
 ⟨Nat.le_trans h.size k.size,fun i hi o r=>(k.block i (alb hi h.size) o (fun cs fr e=>r cs fr ((h.block i hi o r).symm.trans e))).trans (h.block i hi o r)⟩
theorem lN.of_below {g:Nat}{w a:World}(h:Below w.heap.size w a):lN g w a:=⟨h.size,fun k b _ _=>h.block k b⟩
theorem lN.set {g:Nat}{a w:World}(h:lN g a w)(o:Nat)(u:Value):lN g a (w.setCell ⟨g,o,none⟩ u) :=
 h.trans ⟨by simp [World.setCell],fun k _ b _=>Below.heap_setCell _ _ _ _ b⟩
theorem lN.cell {g k:Nat}{cs:Array Value}{T:TypeId}{fr:Nat × Nat}{w b:World}(h:lN g w b)(a:w.heap[k]? = some (.cells cs T fr))(t:k ≠ g)(r:T ≠ 5):b.heap[k]? = some (.cells cs T fr):=by
 rw [h.block k (akX.1 a).1 t,a];intro cs' o e;rw [a] at e
 simp only [Option.some.injEq,Obj.cells.injEq] at e
 exact r e.2.1
theorem DJ (g:Nat)(w:World)(h0:w.cell? ⟨g,0,none⟩=some (.pointer (some ⟨g,0,none⟩))) :
  Calls Tryz.prog 63 #[.pointer (some ⟨g,0,none⟩)] w fun e b=>e=.returned (.tuple #[])∧w=b:=by
 obtain⟨j,a,_⟩:=Option.map_eq_some_iff.1 xX;go_in
 go_wp2;rw [Lib.run_neq_ptr_same w _ Tryz.underlying59 a];go_wp2;go_end0
 exact⟨rfl,rfl⟩
theorem B_ (T n g:Nat)(o:xq T n)(w:World)(h0:w.cell? ⟨g,0,none⟩=some (.pointer none))(a:w.shape? g=some (T,n))(t:0 < n)(r:w.frozen? ⟨g,0,none⟩=false) :
  Calls Tryz.prog 63 #[.pointer (some ⟨g,0,none⟩)] w fun e u=>e=.returned (.tuple #[])∧w.setCell ⟨g,0,none⟩ (.pointer (some ⟨g,0,none⟩))=u:=by
 obtain⟨j,k,b⟩:=Option.map_eq_some_iff.1 xX;go_in
 go_wp2;rw [Lib.run_to_unsafe w ⟨g,0,none⟩ Tryz.underlying59 Tryz.underlying139 k (by rw [b];decide) a t];simp only [Result.andThen];rw [Oper.upon_value];go_wp2;rw [run_callFunc_extern Tryz.func104 (by kernel_rfl) (by kernel_rfl) (by kernel_rfl) (e:=Extern.AbiNoEscape.same) (by kernel_rfl)];rw [Lib.run_noEscape];simp only [Result.andThen];rw [Oper.upon_value];go_wp2;rw [Lib.run_from_unsafe w ⟨g,0,none⟩ Tryz.underlying139 Tryz.underlying59 k a o.lies];simp only [Result.andThen];rw [Oper.upon_value];go_wp2;go_end0
 exact⟨rfl,rfl⟩
theorem vY (T n B g:Nat)(r:xq T n)(rest:List Value)(k:Bs)(w:World)(h:zo T B g rest k w)(t:n=rest.length+2) :
  Calls Tryz.prog 63 #[.pointer (some ⟨g,0,none⟩)] w fun e b=>e=.returned (.tuple #[])∧vJ T B g (.pointer (some ⟨g,0,none⟩)) rest k b∧Below B w b∧lN g w b:=by
 rcases h with h | h
 ·obtain⟨o,v,a,_⟩:=id h;refine (B_ T n g r w (by rw [Lib.cell_of_heap a];rfl) (by simp [World.shape?,a,t]) (by omega) (Lib.frozen_of_heap a 0)).mono ?_;rintro e b ⟨rfl,rfl⟩;exact⟨rfl,h.used _,(Below.refl _ _).setCell (p:=⟨g,0,none⟩) o _,(lN.refl _ _).set _ _⟩
 ·obtain⟨o,v,a,_⟩:=id h;refine (DJ g w (by rw [Lib.cell_of_heap a];rfl)).mono ?_;rintro e b ⟨rfl,rfl⟩;exact⟨rfl,h,Below.refl _ _,lN.refl _ _⟩
theorem J7 (s:Bs):Lib.strCells (aH s)=Lib.byteCells s:=rfl
theorem jl (T n B g:Nat)(V:xq T n)(rest:List Value)(F s:Bs)(w:World)(h:zo T B g rest F w)(D:n=rest.length+2)(X:F.length+s.length≤1000000000)(hBw:B≤w.heap.size) :
  Calls Tryz.prog 26 #[.pointer (some ⟨g,0,none⟩),.string (aH s)] w fun e Q =>
   e=.returned (.tuple #[.int .i64 s.length,.nilIface])∧zo T B g rest (F ++ s) Q∧Below B w Q∧lN g w Q:=by
 obtain⟨i0,hi,M,N,P⟩:=info_parts GL;go_in
 go_wp2_with (go_at_call 63;refine (vY T n B g V rest F _ h D).mono ?_)
 rintro e w1⟨rfl,h1,C,L⟩;have J:=h1.lt;obtain⟨U,v,u,r,K⟩:=h1;have Z:w1.cell? ⟨g,0,none⟩=some (.pointer (some ⟨g,0,none⟩)):=by rw [Lib.cell_of_heap u];rfl
 have c1:w1.cell? ⟨g,1,none⟩=some v:=by rw [Lib.cell_of_heap u];rfl
 have HN:=O D;clear D;go_wp2_with (at_builtin;refine Lib.wpList_append_own_string _ rfl _ _ 60 9 rfl B 5 i0 Tryz.underlying60 Tryz.underlying9 hi M N P _ _ _ rfl r (aH s) rfl ?c3 ?c4 ?c5 ?_)
 case c3=>rw [aM];unfold maxLen;omega
 case c4=>rw [aM];omega
 case c5=>have:=C.size;omega
 intro v' H b a _
 have G:H.heap[g]? = some (.cells (.pointer (some ⟨g,0,none⟩) :: v :: rest).toArray T (0,0)):=by
  rw [a.block g J (fun e=>K e.symm)];exact u
 have t:=O G;clear G;have d0:H.cell? ⟨g,0,none⟩=some (.pointer (some ⟨g,0,none⟩)):=by rw [Lib.cell_of_heap t.o];rfl
 have d1:H.cell? ⟨g,1,none⟩=some v:=by rw [Lib.cell_of_heap t.o];rfl
 have f1:H.frozen? ⟨g,1,none⟩=false:=Lib.frozen_of_heap t.o 1;obtain⟨ao,cap,rfl⟩:=d_ b;clear Z c1 u;have Y:=O b;clear b;have E:=O r;clear r;go_wp2;go_ret2
 refine⟨rfl,.inr ?_,?_,?_⟩
 ·refine vJ.put U t.o (bs':=F ++ s) ?_ V.ne
  have:=Y.o
  rw [J7,← Lib.byteCells_append] at this
  rw [ak5];exact this
 ·exact (C.grown a (by have:=C.size;omega) (fun k I=>(E.o.lt k I).1)).setCell (p:=⟨g,1,none⟩) U _
 ·refine (L.trans ⟨a.size,fun k I _ D=>a.block k I (fun e=>?_)⟩).set 1 _;rcases E.o.2 with ⟨hv,_⟩ | ⟨q,R,cur,hv,_,hq,_⟩
  ·rw [hv] at e;simp [Value.ownBlock] at e
  ·rw [hv] at e;simp [Value.ownBlock] at e
   rw [e] at D;exact D _ _ hq
theorem unsafeString_none (W:World)(q:Option Addr):(Builtin.unsafeString_ #[116,3] 9 #[.pointer q,.int .i64 0]).run Tryz.prog W=.ok (.string .empty) W :=
 Lib.run_unsafeString_none W _ _ _ q
theorem sW (T B g:Nat)(rest:List Value)(r:Bs)(w:World)(h:zo T B g rest r w)(J:B≤w.heap.size) :
  Calls Tryz.prog 29 #[.pointer (some ⟨g,0,none⟩)] w fun e V=>e=.returned (.string (aH r))∧Below B w V:=by
 have M:=h.lt;obtain⟨p,X,v,o,b,R⟩:=h.any;clear h;have P:=O o;have a:w.drew.heap[g]? = some (.cells (p :: v :: rest).toArray T (0,0)):=o;rcases b.2 with ⟨rfl,h0⟩ | ⟨k,cap,u,rfl,N,H,I,L,G,t⟩
 ·have K:r=[]:=List.eq_nil_of_length_eq_zero h0;subst K;have F:=unsafeString_none;have c1:w.drew.cell? ⟨g,1,none⟩=some (.slice none 0 0):=by rw [Lib.cell_of_heap a];rfl
  have C:(Builtin.unsafeSliceData_ #[60] 116 #[.slice none 0 0]).run Tryz.prog w.drew=.ok (.pointer none) w.drew:=rfl;clear o a b;go_in
  go_wp2;go_region
  all_goals (go_wp2;go_ret;exact⟨rfl,Below.drew (Below.refl B w)⟩)
 ·by_cases h0:r=[]
  ·subst h0;have F:=unsafeString_none;have c1:w.drew.cell? ⟨g,1,none⟩=some (.slice (some ⟨k,0,none⟩) 0 cap):=by rw [Lib.cell_of_heap a];rfl
   by_cases D:cap=0
   ·subst D
    have C:(Builtin.unsafeSliceData_ #[60] 116 #[.slice (some ⟨k,0,none⟩) 0 0]).run Tryz.prog w.drew=.ok (.pointer (some ⟨w.drew.heap.size,0,none⟩)) (w.drew.alloc (.view ⟨k,0,none⟩ 5)) :=
     Lib.run_unsafeSliceData_zero w.drew _ _ 5 Tryz.underlying116 ⟨k,0,none⟩ 0 (5,u.size) (by have E:w.drew.heap[k]? = some (.cells u 5 (0,0)):=H;simp [World.shape?,E])
    have c2:(w.drew.alloc (.view ⟨k,0,none⟩ 5)).cell? ⟨g,1,none⟩=some (.slice (some ⟨k,0,none⟩) 0 0):=by
     have:(w.drew.alloc (.view ⟨k,0,none⟩ 5)).heap[g]? = _:=(Lib.alloc_old w.drew _ g M).trans a
     rw [Lib.cell_of_heap this];rfl
    have c3:(w.alloc (.view ⟨k,0,none⟩ 5)).drew.cell? ⟨g,1,none⟩=some (.slice (some ⟨k,0,none⟩) 0 0):=c2;have c4:w.cell? ⟨g,1,none⟩=some (.slice (some ⟨k,0,none⟩) 0 0):=c1;clear o a b H;go_in
    go_wp2;go_region
    all_goals (go_wp2;go_ret;exact⟨rfl,(Below.drew (Below.refl B w)).alloc J _⟩)
   ·have C:(Builtin.unsafeSliceData_ #[60] 116 #[.slice (some ⟨k,0,none⟩) 0 cap]).run Tryz.prog w.drew=.ok (.pointer (some ⟨k,0,none⟩)) w.drew :=
     Lib.run_unsafeSliceData_row _ _ _ _ _ _ D
    clear o a b H D G t I;go_in
    go_wp2;go_region
    all_goals (go_wp2;go_ret;exact⟨rfl,Below.drew (Below.refl B w)⟩)
  ·have Q:r.length ≠ 0:=by simpa using h0
   have c1:w.drew.cell? ⟨g,1,none⟩=some (.slice (some ⟨k,0,none⟩) r.length cap):=by rw [Lib.cell_of_heap a];rfl
   have C:(Builtin.unsafeSliceData_ #[60] 116 #[.slice (some ⟨k,0,none⟩) r.length cap]).run Tryz.prog w.drew=.ok (.pointer (some ⟨k,0,none⟩)) w.drew :=
    Lib.run_unsafeSliceData_row _ _ _ _ _ _ (by omega)
   have F:(Builtin.unsafeString_ #[116,3] 9 #[.pointer (some ⟨k,0,none⟩),.int .i64 r.length]).run Tryz.prog w.drew=.ok (.string ⟨r.toArray⟩) (w.drew.freeze ⟨k,0,none⟩ r.length):=by
    refine Lib.run_unsafeString_row w.drew _ _ _ 5 Tryz.underlying116 Ph k u.size (by have E:w.drew.heap[k]? = some (.cells u 5 (0,0)):=H;simp [World.shape?,E]) r h0 (by omega) (by unfold maxLen at L;omega) ?_;intro j x U
    have:=b.cells (g:=k) rfl j (.int .u8 x.toNat) (by simp [Lib.byteCells,U])
    exact this
   clear o a b H G t I;go_in
   go_wp2;go_region
   all_goals (go_wp2;go_ret;exact⟨rfl,Lib.below_freeze (Below.drew (Below.refl B w)) (p:=⟨k,0,none⟩) N _⟩)
end
section
open Go.RowKit Mist
attribute [local go_sem] ah aM aV au ak
theorem wB (T n B g:Nat)(Y:xq T n)(rest:List Value)(F:Bs)(c:UInt8)(w:World)(h:zo T B g rest F w)(G:n=rest.length+2)(Z:F.length+1≤1000000000)(hBw:B≤w.heap.size) :
  Calls Tryz.prog 27 #[.pointer (some ⟨g,0,none⟩),.int .u8 c.toNat] w fun e U =>
   e=.returned .nilIface∧zo T B g rest (F ++ [c]) U∧Below B w U∧lN g w U:=by
 obtain⟨i0,hi,P,Q,R⟩:=info_parts GL;go_in
 go_wp2_with (go_at_call 63;refine (vY T n B g Y rest F _ h G).mono ?_)
 rintro e w1⟨rfl,h1,D,N⟩;have L:=h1.lt;obtain⟨X,v,E,r,M⟩:=h1;have c0:w1.cell? ⟨g,0,none⟩=some (.pointer (some ⟨g,0,none⟩)):=by rw [Lib.cell_of_heap E];rfl
 have c1:w1.cell? ⟨g,1,none⟩=some v:=by rw [Lib.cell_of_heap E];rfl
 have HN:=O G;clear G;have hz1':=D.size;have HNW:=O (bf.new w1 5 #[.int .u8 c.toNat]);go_wp2_with (at_builtin;refine wpList_append_own _ rfl (.tmp 11) (.tmp 13) 60 rfl B 5 i0 _ 1 1 Tryz.underlying60 hi P Q R rfl (by decide) _ F.length (Lib.byteCells F) rfl (r.alloc _) ⟨w1.heap.size,0,none⟩ 1 1 [.int .u8 c.toNat] rfl rfl ?c1 ?c2 ?c3 ?c4 ?c5 ?_)
 case c1=>exact World.news_of_block (cs:=#[.int .u8 c.toNat]) (t:=5) (fr:=(0,0)) (heap_alloc_new w1 _)
 case c2=>intro u hu;rcases List.mem_singleton.1 hu with rfl;rfl
 case c3=>simp only [maxLen];omega
 case c4=>omega
 case c5=>simp;omega
 intro v' J b a _
 have I:J.heap[g]? = some (.cells (.pointer (some ⟨g,0,none⟩) :: v :: rest).toArray T (0,0)):=by
  rw [a.block g (by simp;omega) (fun e=>M e.symm)];exact (Below.heap_alloc w1 _ g L).trans E
 have C:=O I;clear I;have d0:J.cell? ⟨g,0,none⟩=some (.pointer (some ⟨g,0,none⟩)):=by rw [Lib.cell_of_heap C.o];rfl
 have d1:J.cell? ⟨g,1,none⟩=some v:=by rw [Lib.cell_of_heap C.o];rfl
 have f1:J.frozen? ⟨g,1,none⟩=false:=Lib.frozen_of_heap C.o 1;obtain⟨ao,cap,rfl⟩:=d_ b;clear c0 c1 E;have HO:=O b;clear b;have H:=O r;clear r;go_wp2;go_ret
 refine⟨rfl,.inr ?_,?_,?_⟩
 ·refine vJ.put X C.o (bs':=F ++ [c]) ?_ Y.ne;have h:=HO.o;rw [ak5]
  simpa [Lib.byteCells] using h
 ·exact ((D.alloc (by have:=D.size;omega) _).grown a (by have:=D.size;simp;omega) (fun k K=>(H.o.lt k K).1)).setCell (p:=⟨g,1,none⟩) X _
 ·refine ((N.trans (lN.of_below ((Below.refl _ _).alloc (ak0 _) _))).trans ⟨a.size,fun k K _ G=>a.block k K (fun e=>?_)⟩).set 1 _;rcases H.o.2 with ⟨hv,_⟩ | ⟨q,V,cur,hv,_,hq,_⟩
  ·rw [hv] at e;simp [Value.ownBlock] at e
  ·rw [hv] at e;simp [Value.ownBlock] at e
   rw [e] at G;exact G _ _ ((Below.heap_alloc w1 _ q (akX.1 hq).1).trans hq)
end
set_option linter.all false
end Go.Proofs.YtflnfhhgamldhaaGreatDoor
namespace Mist
theorem Ir (a b:List Pz):iI (a ++ b)=iI a ++ iI b:=by
 induction a with
 | nil=>rfl
 | cons p r e=>show (if p.blank then [32] else []) ++ (p.text ++ iI (r ++ b))=((if p.blank then [32] else []) ++ (p.text ++ iI r)) ++ iI b;rw [e];simp
theorem Rh (l:List Pz)(m:Nat)(p:Pz)(h:l[m]? = some p):iI (l.take (m+1))=iI (l.take m) ++ (if p.blank then [32] else []) ++ p.text:=by
 have a:m < l.length:=(akV.1 h).1;have e:l[m]=p:=(akV.1 h).2;rw [List.take_succ_eq_append_getElem a,e,Ir];simp [iI]
theorem abo (l:List Pz)(m:Nat):(iI (l.take m)).length≤(iI l).length:=by
 have h:=Ir (l.take m) (l.drop m);rw [List.take_append_drop] at h
 rw [h];simp
end Mist
namespace Go.Proofs.YtflnfhhgamldhaaGreatDoor
section
open Go.RowKit Mist
attribute [local go_sem] ah aM aV au ak
structure Tz (w:World) (A:Option Addr) (l:List Pz):Prop where
 at_:0 < l.length→∃ b o,A=some ⟨b,o,none⟩∧b < w.heap.size∧∀ k p,l[k]? = some p→w.cell? ⟨b,o+k * 3,none⟩=some (.string (aH p.text))∧w.cell? ⟨b,o+k * 3+1,none⟩=some (.bool p.blank)∧w.cell? ⟨b,o+k * 3+2,none⟩=some (.int .i64 p.node)
theorem Tz.below {w t:World}{A:Option Addr}{l:List Pz}(h:Tz w A l)(r:Below w.heap.size w t):Tz t A l:=⟨fun h0=>by
 obtain⟨b,o,e,a,u⟩:=h.at_ h0
 refine⟨b,o,e,alb a r.size,fun k p v=>?_⟩
 obtain⟨h1,h2,h3⟩:=u k p v;exact⟨(r.cell (p:=⟨b,_,none⟩) a).trans h1,(r.cell (p:=⟨b,_,none⟩) a).trans h2,(r.cell (p:=⟨b,_,none⟩) a).trans h3⟩⟩
theorem l9:xq 62 2:=⟨by kernel_rfl,by decide⟩
theorem Ri (A:Option Addr)(c:Nat)(l:List Pz)(w:World)(h:Tz w A l)(hn:l.length≤1000000)(ht:(iI l).length≤100000000) :
  Calls Tryz.prog 39 #[.slice A l.length c] w fun e w'=>e=.returned (.string (aH (iI l)))∧Below w.heap.size w w':=by
 have HP:=O h;clear h;have HT:=O ht;clear ht;obtain⟨n,F⟩:∃ n,n=l.length:=⟨_,rfl⟩;rw [← F] at hn ⊢
 have Z:=O F;clear F;go_in
 go_wp2_with fail;have G:=O (zo.fresh 62 [] w);have ni:=O ((Below.refl w.heap.size w).alloc (ak0 _) (.cells #[.pointer none,.slice none 0 0] 62));go_loopw [8] (fun iv wr=>∃ m:Nat,m≤n∧iv=.int .i64 m∧Hid (zo 62 w.heap.size w.heap.size [] (iI (l.take m)) wr)∧Hid (Below w.heap.size w wr)) (fun iv _=>n - (intOf iv).toNat)
 case atStart=>exact⟨0,ak2 _,rfl,G,ni⟩
 case round =>
  obtain⟨m,hm,rfl,V,P⟩:=hrel;clear G ni;have L:=P.o.size;by_cases M:m < n
  ·obtain⟨p,hp⟩:∃ p,l[m]? = some p:=⟨_,akU (by rw [← Z.o];exact M)⟩;obtain⟨b,o,hA,hbl,hc⟩:=(HP.o.below P.o).at_ (by rw [← Z.o];omega);subst hA;obtain⟨q0,q1,q2⟩:=hc m p hp;have a:=Rh l m p hp;have K:=abo l (m+1);obtain⟨t,R,nd⟩:=p;simp only at q0 q1 q2 a
   have H:=O a;have v:=congrArg List.length a;have y0:(0:Int)≤(m:Int):=by omega
   have y1:(m:Int) < (n:Int):=by omega
   have E:=O (show (iI (l.take m)).length+1+t.length≤1000000000 by
    have:=HT.o
    rw [v,ak5,ak5] at K
    omega)
   have C:=O (bf.new wr 113 #[.string (aH t),.bool R,.int .i64 nd]);have Q:=O (V.o.below ((Below.refl _ _).alloc (ak0 _) (.cells #[.string (aH t),.bool R,.int .i64 nd] 113)));have k:=O (P.o.alloc L (.cells #[.string (aH t),.bool R,.int .i64 nd] 113));clear hc hp a K v;cases R
   ·go_upto_region 5 with (fail)
    generalize wr.alloc (.cells #[.string (aH t),.bool false,.int .i64 nd] 113)=U at C Q k ⊢
    have d0:=C.o.cell 0;have d1:=C.o.cell 1;go_wp2_with fail;refine (jl 62 2 w.heap.size w.heap.size l9 [] (iI (l.take m)) t U Q.o rfl (by have:=E.o;omega) k.o.size).mono ?_;rintro e w3⟨rfl,r,u,_⟩;have D:=O r;have T:=O (k.o.trans u);clear r u;go_wp2_with fail;exact⟨⟨m+1,by omega,by go_num,O (by rw [H.o];simpa using D.o),T⟩,by simp [intOf];omega⟩
   ·go_upto_region 5 with (fail)
    generalize wr.alloc (.cells #[.string (aH t),.bool true,.int .i64 nd] 113)=U at C Q k ⊢
    have d0:=C.o.cell 0;have d1:=C.o.cell 1;go_wp2_with fail;refine (wB 62 2 w.heap.size w.heap.size l9 [] (iI (l.take m)) 32 U Q.o rfl (by have:=E.o;omega) k.o.size).mono ?_;rintro e w3⟨rfl,r,u,N⟩;have D:=O r;have T:=O (k.o.trans u);have HSP:=O N;clear r u d0 d1 N;have gH:bf w3 wr.heap.size 113 #[.string (aH t),.bool true,.int .i64 nd]:=HSP.o.cell C.o (by have:=V.o.lt;omega) (by decide);have d0:=gH.cell 0;go_wp2_with fail;refine (jl 62 2 w.heap.size w.heap.size l9 [] (iI (l.take m) ++ [32]) t w3 D.o rfl (by have:=E.o;rw [ak5];simp;omega) T.o.size).mono ?_;rintro e w4⟨rfl,I,J,_⟩;have qM:=O I;have vN:=O (T.o.trans J);clear I J;go_wp2_with fail;exact⟨⟨m+1,by omega,by go_num,O (by rw [H.o];simpa using qM.o),vN⟩,by simp [intOf];omega⟩
  ·obtain rfl:m=n:=by omega
   have X:=O (show zo 62 w.heap.size w.heap.size [] (iI l) wr from by have h:=V.o;rw [Z.o,List.take_length] at h;exact h);clear M;go_wp2_with fail;refine (sW 62 w.heap.size w.heap.size [] (iI l) wr X.o L).mono ?_;rintro e U⟨rfl,hb⟩;have Y:=O (P.o.trans hb);clear hb;go_wp2_with fail;go_ret;exact⟨rfl,Y.o⟩
end
set_option linter.all false
section
open Go.RowKit Mist
attribute [local go_sem] ah aM aV au ak
def vO (w:World)(v:Value)(l:List Pz):Prop:=w.ownsRow 0 113 3 v l.length (gV l)
theorem vO.below {w a:World}{v:Value}{l:List Pz}(h:vO w v l)(b:Below w.heap.size w a):vO a v l:=own_below h b
theorem vO.form {w:World}{v:Value}{l:List Pz}(h:vO w v l):∃ A c,v=.slice A l.length c∧Tz w A l:=by
 obtain⟨A,c,rfl⟩:=d_ h;have h:w.ownsRow 0 113 3 (.slice A l.length c) l.length (gV l):=h
 refine⟨A,c,rfl,⟨fun h0=>?_⟩⟩
 obtain⟨e,cap,hv,r⟩:=h.form h0;injection hv with b
 subst b
 refine⟨e,0,rfl,(World.ownsRow.lt h e rfl).2,fun k p a=>?_⟩
 have o:=(akV.1 a).1;rw [Nat.zero_add]
 refine⟨?_,?_,?_⟩
 ·rw [h.cellAt (k * 3) (by omega)];exact uV l k 0 p _ a rfl
 ·rw [h.cellAt (k * 3+1) (by omega)];exact uV l k 1 p _ a rfl
 ·rw [h.cellAt (k * 3+2) (by omega)];exact uV l k 2 p _ a rfl
def mI (T:Tr)(f i:Nat):List Pz:=dI false (aQ T f i)
structure WX (W:World) (A Bi:Option Addr) (n:Nat) (xs:List NV) (its:List Int):Prop where
 t:rQ W A Bi xs its
 len:xs.length=n
 few:n≤1000
 pow:Pow W
 env:Env W
 ok:O_ ⟨aF xs,its⟩
theorem Pow.on {w e:World}(h:Pow w)(b:Below w.heap.size w e):Pow e:=fun k a=>h k (b.trans (a.mono b.size))
theorem WX.below {W b:World}{A Bi:Option Addr}{n:Nat}{xs:List NV}{its:List Int}(X:WX W A Bi n xs its)(a:Below W.heap.size W b):WX b A Bi n xs its:=⟨X.t.below a,X.len,X.few,X.pow.on a,X.env.below a,X.ok⟩
theorem WX.nodes {W:World}{A Bi:Option Addr}{n:Nat}{xs:List NV}{its:List Int}(X:WX W A Bi n xs its):(⟨aF xs,its⟩:Tr).nodes.length=n:=by rw [← X.len];simp [aF]
theorem WX.bits {W:World}{A Bi:Option Addr}{n:Nat}{xs:List NV}{its:List Int}(X:WX W A Bi n xs its){i f:Nat}(hi:i < n)(a:i < f):(aQ ⟨aF xs,its⟩ f i).length≤12012:=by
 have:=GD X.ok.right X.ok.fo (i:=i) (f:=f) (by rw [X.nodes];exact hi) a
 have:=X.few
 omega
section
variable {W:World} {A Bi:Option Addr} {n c m d i f:Nat} {xs:List NV} {its:List Int}
theorem sV (X:WX W A Bi n xs its)(hi:i < n)(G:i+1 < f)(H:fM (nd (⟨aF xs,its⟩:Tr) i).kind=true) :
  Calls Tryz.prog 22 #[.agg #[.slice A n c,.slice Bi m d],.int .i64 i,.func (.func 23) #[] #[]] W fun e r=>∃ v,e=.returned v∧vO r v (mI ⟨aF xs,its⟩ f i)∧Below W.heap.size W r:=by
 have a:CX W W.heap.size A Bi n xs its:=⟨X.t,X.len,ak0 _,by have:=X.few;omega,X.pow,X.env⟩;have u:(W.alloc (.cells #[.slice A n c,.slice Bi m d] 32)).heap.size=W.heap.size+1:=by simp
 have k:=O (((Below.refl W.heap.size W).alloc (ak0 _) (.cells #[.slice A n c,.slice Bi m d] 32)).alloc (by simp) (.cells #[.slice A n c,.slice Bi m d,.slice none 0 0] 102))
 have C:PZ [] W.heap.size (W.heap.size+1) W ((W.alloc (.cells #[.slice A n c,.slice Bi m d] 32)).alloc (.cells #[.slice A n c,.slice Bi m d,.slice none 0 0] 102)) (.slice A n c) (.slice Bi m d) (.slice none 0 0) []:=by
  have D:=bf.new (W.alloc (.cells #[.slice A n c,.slice Bi m d] 32)) 102 #[.slice A n c,.slice Bi m d,.slice none 0 0];rw [u] at D
  exact⟨D,World.ownsRow_nil _ _ _ _,k.o,by omega,by simp;omega,fun e F=>by cases F⟩
 have E:=O (Vh (g:=W.heap.size+1) (c:=c) (iv:=.slice Bi m d) a X.ok f i G hi H [] _ _ [] (O C) (by have:=X.bits hi (show i < f by omega);simp;omega));clear C k X a u;go_in
 go_wp2_with fail;refine E.o.mono ?_;rintro e J⟨I,rfl,b⟩;have K:J.cell? ⟨W.heap.size+1,2,none⟩=some I:=b.o.blk.cell 2;go_wp2_with fail;go_ret;exact⟨_,rfl,jm b.o.own (fun _ _=>ak2 _),b.o.Ki⟩
def rF (T:Tr)(f:Nat)(its:List Int):List (List Pz):=its.map fun a=>mI T f a.toNat
structure zN (w:World) (base:Nat) (v:Value) (ls:List (List Pz)) (vs:List Value):Prop where
 own:w.ownsRow base 54 1 v ls.length vs
 len:vs.length=ls.length
 row:∀ (k:Nat) (l:List Pz),ls[k]? = some l→∃ u,vs[k]? = some u∧vO w u l
theorem zN.below {w r:World}{base:Nat}{v:Value}{ls:List (List Pz)}{vs:List Value}(h:zN w base v ls vs)(o:Below w.heap.size w r):zN r base v ls vs :=
 ⟨own_below h.own o,h.len,fun k l e=>by obtain⟨u,a,b⟩:=h.row k l e;exact⟨u,a,b.below o⟩⟩
theorem zN.add {w C:World}{base:Nat}{v E:Value}{ls:List (List Pz)}{vs:List Value}(h:zN w base v ls vs){u:Value}{l:List Pz}(t:vO w u l)(F:w.grownBy C v.ownBlock)(G:C.ownsRow base 54 1 E (ls.length+1) (vs ++ [u])):zN C base E (ls ++ [l]) (vs ++ [u]):=by
 have keep:∀ {u:Value} {l:List Pz},vO w u l→vO C u l:=fun {u l} t=>World.ownsRow.kept (show w.ownsRow 0 113 3 u l.length (gV l) from t) F (eY (show w.ownsRow 0 113 3 u l.length (gV l) from t) h.own (by decide))
 refine⟨by rw [ak5];exact G,by simp [h.len],fun k D e=>?_⟩
 rcases Nat.lt_or_ge k ls.length with r | r
 ·rw [List.getElem?_append_left r] at e
  obtain⟨H,a,b⟩:=h.row k D e;exact⟨H,by rw [List.getElem?_append_left (by rw [h.len];exact r)];exact a,keep b⟩
 ·rw [List.getElem?_append_right r] at e
  have o:k - ls.length=0:=by
   rcases Nat.eq_zero_or_pos (k - ls.length) with h0 | h0
   ·exact h0
   ·rw [List.getElem?_eq_none (by simp;omega)] at e;cases e
  rw [o] at e
  have e:l=D:=by simpa using e
  subst e;exact⟨u,by rw [List.getElem?_append_right (by rw [h.len];omega),h.len,o];rfl,keep t⟩
theorem MG:(Tryz.prog.info? 54).map (fun i=>(i.zero,i.size,i.bytes))=some (some (.slice none 0 0),1,24):=by kernel_rfl
theorem acj (X:WX W A Bi n xs its)(hm:its.length=m)(hf:n+1≤f)(h0:1≤n∨m=0)(Q:∀ a ∈ its,∃ i:Nat,a=(i:Int)∧i < n∧fM (nd (⟨aF xs,its⟩:Tr) i).kind=true)(hmm:m≤1000) :
  Calls Tryz.prog 38 #[.agg #[.slice A n c,.slice Bi m d]] W fun e W'=>∃ v vs,e=.returned v∧zN W' W.heap.size v (rF ⟨aF xs,its⟩ (f+1) its) vs∧Below W.heap.size W W':=by
 obtain⟨i0,hi0,hz0,hz1,hz2⟩:=info_parts MG;have HX:=O X;have HIT:=O Q;have HM:=O hm;have K:=O ((Below.refl W.heap.size W).alloc (ak0 _) (.cells #[.slice A n c,.slice Bi m d] 32));have N:=O (bf.new W 32 #[.slice A n c,.slice Bi m d]);have HI:=O X.t.items;clear Q X hm;go_in
 go_wp2_with fail;go_loopw [2,4,8] (fun v2 _ ZG wr=>∃ (k:Nat) (vs:List Value),k≤m∧ZG=.int .i64 k∧Hid (zN wr W.heap.size v2 ((rF ⟨aF xs,its⟩ (f+1) its).take k) vs)∧Hid (Below W.heap.size W wr)∧Hid (bf wr W.heap.size 32 #[.slice A n c,.slice Bi m d])) (fun _ _ ZG _=>m - (intOf ZG).toNat)
 case atStart=>exact⟨0,[],ak2 _,rfl,O ⟨World.ownsRow_nil _ _ _ _,rfl,fun k l e=>by simp at e⟩,K,N⟩
 case round =>
  obtain⟨k,vs,hkm,rfl,Z,J,M⟩:=hrel;clear K N;have hgp:(rF ⟨aF xs,its⟩ (f+1) its).length=m:=by unfold rF;rw [List.length_map,HM.o]
  by_cases T:k < m
  ·obtain⟨a,ha⟩:∃ a,its[k]? = some a:=⟨_,akU (by rw [HM.o];exact T)⟩;obtain⟨i,rfl,hin,V⟩:=HIT.o a (ak3 ha);obtain⟨kb,ko,P,hkb,R⟩:=HI.o.ex (by rw [HM.o];omega);have kq:wr.cell? ⟨kb,ko+k,none⟩=some (.int .i64 (i:Int)):=(J.o.cell (p:=⟨kb,_,none⟩) hkb).trans (R k _ ha);have hbi:=O P;subst P;have c0:wr.cell? ⟨W.heap.size,0,none⟩=some (.slice A n c):=M.o.cell 0;have c1:wr.cell? ⟨W.heap.size,1,none⟩=some (.slice (some ⟨kb,ko,none⟩) m d):=M.o.cell 1;have U:=J.o.size
   have Y:(rF ⟨aF xs,its⟩ (f+1) its).take (k+1)=(rF ⟨aF xs,its⟩ (f+1) its).take k ++ [mI ⟨aF xs,its⟩ (f+1) i]:=by
    rw [List.take_succ,show (rF ⟨aF xs,its⟩ (f+1) its)[k]? = some (mI ⟨aF xs,its⟩ (f+1) i) from by unfold rF;rw [List.getElem?_map,ha];rfl];rfl
   have Dk:=O Y;have L:=O (sV (c:=c) (m:=m) (d:=d) (HX.o.below J.o) hin (show i+1 < f+1 by omega) V);have y0:(0:Int)≤(k:Int):=by omega
   have y1:(k:Int) < (m:Int):=by omega
   have I:((rF ⟨aF xs,its⟩ (f+1) its).take k).length=k:=by rw [List.length_take];omega
   have C:=O I;obtain⟨Av,cv,rfl⟩:=d_ Z.o.own;rw [I];clear Y R ha V hgp I;go_wp2_with fail;refine L.o.mono ?_;rintro e w2⟨u,rfl,hu,D⟩;obtain⟨F,G,rfl⟩:=d_ (show w2.ownsRow 0 113 3 u _ _ from hu);have HU:=O hu;have r:=O (Z.o.below D);have H:=O (J.o.trans (D.mono U));have wX:=O (M.o.below D M.o.lt);have HO:=O (show w2.ownsRow W.heap.size 54 1 (.slice Av k cv) k vs from by have:=r.o.own;rw [C.o] at this;exact this);have hvl:vs.length=k:=by rw [r.o.len,C.o]
   have hs2:=H.o.size
   generalize (mI ⟨aF xs,its⟩ (f+1) i).length=pl at *
   clear hu D L c0 c1 kq y0 y1 Z J M U
   go_wp2_with (at_builtin;go_loud (
    refine wpList_append_own _ rfl (.tmp 12) (.tmp 16) 82 rfl W.heap.size 54 i0 _ 1 24 Tryz.underlying82 hi0 hz0 hz1 hz2 rfl (by decide) _ k vs rfl (HO.o.alloc _) ⟨w2.heap.size,0,none⟩ 1 1 [.slice F pl G] rfl rfl (iD w2 [.slice F pl G] _) (fun v hv=>by rw [List.mem_singleton.1 hv];rfl) (by simp only [maxLen];omega) (by omega) (by simp;omega) ?_;intro v3 w3 b E _))
   have kP:=O (((r.o.below ((Below.refl _ _).alloc (ak0 _) (.cells #[.slice F pl G] 54))).add (HU.o.below ((Below.refl _ _).alloc (ak0 _) (.cells #[.slice F pl G] 54))) (by rw [C.o];exact E) (by rw [C.o];exact b)));have HB3:=O ((H.o.alloc hs2 (.cells #[.slice F pl G] 54)).grown E (by simp;omega) (fun z hz=>(HO.o.lt z hz).1));have BX:=O ((wX.o.alloc (.cells #[.slice F pl G] 54)).grown E (fun e=>bD (HO.o.alloc (.cells #[.slice F pl G] 54)) (wX.o.alloc (.cells #[.slice F pl G] 54)) (by decide) e.symm));rw [← Dk.o] at kP
   clear b E r H wX HU HO;go_wp2_with fail;exact⟨⟨k+1,_,by omega,by go_num,kP,HB3,BX⟩,by simp [intOf];omega⟩
  ·obtain rfl:k=m:=by omega
   have HLF:=O (show zN wr W.heap.size _ (rF ⟨aF xs,its⟩ (f+1) its) vs from by have h:=Z.o;rw [ak4 (by omega)] at h;exact h);have y1:¬ (k:Int) < (k:Int):=by omega
   clear T;go_wp2_with fail;go_ret;exact⟨_,rfl,⟨_,HLF.o⟩,J.o⟩
end
end
