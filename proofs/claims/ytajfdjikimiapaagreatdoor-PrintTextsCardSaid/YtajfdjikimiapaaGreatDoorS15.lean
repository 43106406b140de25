/-
  A part of the proof.
-/
import Derived.Test.YtajfdjikimiapaaGreatDoorS14
set_option linter.all false
set_option maxRecDepth 100000
set_option maxHeartbeats 4000000
set_option linter.all false
namespace Go.Proofs.YtajfdjikimiapaaGreatDoor
section
open Go.RowKit Mist
attribute [local go_sem] au aN aV aM aG
abbrev xS (h g i:Nat) (cs:Array Value) (S:Sz):Sz:=(h+2,39,cs) :: (h+1,3,#[.int .i64 (i:Nat)]) :: (h,56,#[.pointer (some ⟨g,0,none⟩)]) :: S
section
variable {S:Sz} {B g n c f i j q b2 b3 h:Nat} {cs:Array Value} {w W:World} {A Bi:Option Addr} {nv iv pv:Value} {ps l:List Pz} {xs:List NV} {its:List Int} {x y:NV}
theorem Pt (W:World)(g i:Nat):((W.alloc (.cells #[.pointer (some ⟨g,0,none⟩)] 56)).alloc (.cells #[.int .i64 (i:Nat)] 3)).heap.size=W.heap.size+2:=by simp
theorem Pp (W:World)(g i:Nat):Below W.heap.size W ((W.alloc (.cells #[.pointer (some ⟨g,0,none⟩)] 56)).alloc (.cells #[.int .i64 (i:Nat)] 3)):=((Below.refl _ _).alloc (aiv _) _).alloc (by simp) _
abbrev xS0 (h g i:Nat) (S:Sz):Sz:=(h+1,3,#[.int .i64 (i:Nat)]) :: (h,56,#[.pointer (some ⟨g,0,none⟩)]) :: S
theorem vV (i:Nat)(H:Hid (PZ S B g w W nv iv pv ps)):Hid (PZ (xS0 W.heap.size g i S) B g w ((W.alloc (.cells #[.pointer (some ⟨g,0,none⟩)] 56)).alloc (.cells #[.int .i64 (i:Nat)] 3)) nv iv pv ps):=by
 have a:(W.alloc (.cells #[.pointer (some ⟨g,0,none⟩)] 56)).heap.size=W.heap.size+1:=by simp
 have h3:=(H.o.box (T:=56) (cs:=#[.pointer (some ⟨g,0,none⟩)]) (by decide)).box (T:=3) (cs:=#[.int .i64 (i:Nat)]) (by decide);rw [a] at h3
 exact O h3
theorem jR (H:Hid (PZ (xS0 h g i S) B g w W nv iv pv ps)):W.cell? ⟨h,0,none⟩=some (.pointer (some ⟨g,0,none⟩))∧W.cell? ⟨h+1,0,none⟩=some (.int .i64 (i:Nat)) :=
 ⟨(H.o.kp _ (List.mem_cons_of_mem _ (List.mem_cons_self ..))).1.cell 0,(H.o.kp _ (List.mem_cons_self ..)).1.cell 0⟩
theorem Pq (i:Nat)(cs:Array Value)(a:W.heap.size=h+2)(H:Hid (PZ (xS0 h g i S) B g w W nv iv pv ps)):Hid (PZ (xS h g i cs S) B g w (W.alloc (.cells cs 39)).drew nv iv pv ps):=by
 have h3:=H.o.box (T:=39) (cs:=cs) (by decide);rw [a] at h3
 exact O h3.drew
theorem cO (H:Hid (PZ (xS h g i cs S) B g w W nv iv pv ps)):W.cell? ⟨h,0,none⟩=some (.pointer (some ⟨g,0,none⟩))∧W.cell? ⟨h+1,0,none⟩=some (.int .i64 (i:Nat))∧W.cell? ⟨h+2,0,none⟩=cs[0]? ∧ W.cell? ⟨h+2,1,none⟩=cs[1]? ∧ W.cell? ⟨h+2,2,none⟩=cs[2]? :=
 ⟨(H.o.kp _ (List.mem_cons_of_mem _ (List.mem_cons_of_mem _ (List.mem_cons_self ..)))).1.cell 0,(H.o.kp _ (List.mem_cons_of_mem _ (List.mem_cons_self ..))).1.cell 0,(H.o.kp _ (List.mem_cons_self ..)).1.cell 0,(H.o.kp _ (List.mem_cons_self ..)).1.cell 1,(H.o.kp _ (List.mem_cons_self ..)).1.cell 2⟩
theorem EY (h g i:Nat)(cs:Array Value)(S:Sz):(h,56,#[.pointer (some ⟨g,0,none⟩)]) ∈ xS h g i cs S:=List.mem_cons_of_mem _ (List.mem_cons_of_mem _ (List.mem_cons_self ..))
theorem II (h g i:Nat)(cs:Array Value)(S:Sz):(h+1,3,#[.int .i64 (i:Nat)]) ∈ xS h g i cs S:=List.mem_cons_of_mem _ (List.mem_cons_self ..)
theorem PZ.xe (H:PZ (xS h g i cs S) B g w W nv iv pv ps):PZ S B g w W nv iv pv ps:=H.tl.tl.tl
theorem Qi {a:Nat}{args:Array Value}{r:List Pz}(b:Calls Tryz.prog a args W (kS S B g w nv iv (gH (gH ps l) r)))(d:l ≠ []):Calls Tryz.prog a args W (kS S B g w nv iv (gH ps (l ++ aH true r))):=by
 rw [qO ps l r d] at b;exact b
theorem PZ.text (H:PZ S B g w W nv iv pv ps){a:Nat}{p:Pz}(e:ps[a]? = some p):∃ b cap,pv=.slice (some ⟨b,0,none⟩) ps.length cap∧W.cell? ⟨b,a * 3,none⟩=some (.string (aU p.text))∧a < ps.length:=by
 have k:a < ps.length:=(aiq.1 e).1;obtain⟨A,c,rfl⟩:=dh H.own;obtain⟨b,cap,hv,_⟩:=H.own.form (by omega);injection hv with d
 subst d
 refine⟨b,c,rfl,?_,k⟩
 rw [H.own.cellAt (a * 3) (by omega)];exact tT ps a 0 p _ e rfl
theorem cl1 (H:Hid (PZ S B g w W nv iv pv ps))(a:Nat)(b:a≤1000000):Calls Tryz.prog 75 #[.pointer (some ⟨g,0,none⟩),.int .i64 a] W (kS S B g w nv iv (mq a ps)):=(Qb H.o a b).mono fun _ _ h=>pzE h
theorem RB (H:Hid (PZ S B g w W (.slice A n c) iv pv ps))(X:CX w B A Bi n xs its)(K:KX w B g A n c iv xs its f i x)(I:x.1.kind=3)(hf:0 < f)
  (L:ps.length+(aW ⟨aj xs,its⟩ (ah ⟨aj xs,its⟩ f) i).length≤1000000) :
  Calls Tryz.prog 35 #[.pointer (some ⟨g,0,none⟩),.int .i64 i] W (kS S B g w (.slice A n c) iv (gH ps (aW ⟨aj xs,its⟩ (ah ⟨aj xs,its⟩ f) i))):=by
 have en:=BS (T:=⟨aj xs,its⟩) (B:=ah ⟨aj xs,its⟩ f) (i:=i) (by rw [aY its K.hx];exact I)
 try rw [aY its K.hx] at en
 rw [en] at L ⊢
 clear en;have hi:i < n:=by rw [← X.len];exact (aiq.1 K.hx).1
 obtain⟨b,o,hA,F⟩:=(X.at_ H.o).nodes (by have:=X.len;omega);have Q:=O F.lt;obtain⟨E,kc,k,hkl,J⟩:=X.kids H.o K.hx;obtain⟨m,M⟩:∃ m,m=x.1.kids.length:=⟨_,rfl⟩;subst hA;have y0:(0:Int)≤(i:Int):=by omega
 have y1:(i:Int) < (n:Int):=by omega
 have hg:=H.o.blk.lt;have EB:=O (show j_ x=#[.int .u8 3,.string (aU x.1.text),.int .i64 x.1.n,.slice E m kc,.int .i64 x.1.at_] from by unfold j_;rw [I,k,M];rfl);have C:=vV i H;have d:=Pt W g i;have a:=O (Pp W g i);have r:=O F;have vD:=O k;have nP:=O (show x.1.kind=3 from I);have V:=O L;have HX:=O X;have t:=O K;have Y:=O M;have G:=Q.o;clear H k J L X K M F;go_in
 go_upto_region 1 with (fail)
 generalize (W.alloc (.cells #[.pointer (some ⟨g,0,none⟩)] 56)).alloc (.cells #[.int .i64 (i:Nat)] 3)=w0 at C d a ⊢
 have Z:w0.cell? ⟨g,0,none⟩=some (.slice (some ⟨b,o,none⟩) n c):=C.o.blk.cell 0;obtain⟨d2,d3⟩:=jR C;have N:=O d;have ug:g < w0.heap.size:=by omega
 have ub:b < w0.heap.size:=by omega
 have uW:W.heap.size < w0.heap.size:=by omega
 have yM:W.heap.size+1 < w0.heap.size:=by omega
 clear d;have k0:w0.cell? ⟨b,o+i * 5,none⟩=some (.int .u8 3):=by have h:=(r.o.below a.o).c0 i x t.o.hx;rw [nP.o] at h;exact h
 have k1:w0.cell? ⟨b,o+i * 5+1,none⟩=some (.string (aU x.1.text)):=(r.o.below a.o).c1 i x t.o.hx;have k2:w0.cell? ⟨b,o+i * 5+2,none⟩=some (.int .i64 x.1.n):=(r.o.below a.o).c2 i x t.o.hx;have k4:w0.cell? ⟨b,o+i * 5+4,none⟩=some (.int .i64 x.1.at_):=(r.o.below a.o).c4 i x t.o.hx;have k3:w0.cell? ⟨b,o+i * 5+3,none⟩=some (.slice E m kc):=by rw [Y.o,← vD.o];exact (r.o.below a.o).c3 i x t.o.hx
 go_region
 have D:=Pq i #[.int .u8 3,.string (aU x.1.text),.int .i64 x.1.n,.slice E m kc,.int .i64 x.1.at_] N.o C;rw [N.o]
 generalize (w0.alloc (.cells #[.int .u8 3,.string (aU x.1.text),.int .i64 x.1.n,.slice E m kc,.int .i64 x.1.at_] 39)).drew=iH at D ⊢
 clear G Z k0 k1 k2 k3 k4 d2 d3 C uW yM ug ub N a r Q y0 y1;obtain⟨c2,c3,u,R,U⟩:=cO D;go_wp2_with fail;refine (yQ D x.1.text (i:Int) (by have:=V.o;simp [ak] at this;omega)).mono ?_;rintro e w1⟨vP,rfl,P⟩;clear c2 c3 u R U D;obtain⟨c2,c3,u,R,U⟩:=cO P;go_wp2_with fail;go_end0
 exact⟨_,rfl,O (by have h:=P.o.xe;simpa [List.append_assoc] using h)⟩
theorem WC (H:Hid (PZ S B g w W (.slice A n c) iv pv ps))(X:CX w B A Bi n xs its)(K:KX w B g A n c iv xs its f i x)(V:x.1.kind=20)(hf:0 < f)(hm1:x.1.kids.length=2)(E:∀ j,j < x.1.kids.length→KE w B g A n c iv xs its f x j)
  (Z:ps.length+(aW ⟨aj xs,its⟩ (ah ⟨aj xs,its⟩ f) i).length≤1000000) :
  Calls Tryz.prog 35 #[.pointer (some ⟨g,0,none⟩),.int .i64 i] W (kS S B g w (.slice A n c) iv (gH ps (aW ⟨aj xs,its⟩ (ah ⟨aj xs,its⟩ f) i))):=by
 have en:=xE (T:=⟨aj xs,its⟩) (B:=ah ⟨aj xs,its⟩ f) (i:=i) (by rw [aY its K.hx];exact V)
 try rw [aY its K.hx] at en
 rw [en] at Z ⊢
 clear en;have hi:i < n:=by rw [← X.len];exact (aiq.1 K.hx).1
 obtain⟨b,o,hA,R⟩:=(X.at_ H.o).nodes (by have:=X.len;omega);have HB:=O R.lt;obtain⟨J,kc,C,hkl,Y⟩:=X.kids H.o K.hx;obtain⟨m,hm⟩:∃ m,m=x.1.kids.length:=⟨_,rfl⟩;subst hA;have y0:(0:Int)≤(i:Int):=by omega
 have y1:(i:Int) < (n:Int):=by omega
 have hg:=H.o.blk.lt;have EB:=O (show j_ x=#[.int .u8 20,.string (aU x.1.text),.int .i64 x.1.n,.slice J m kc,.int .i64 x.1.at_] from by unfold j_;rw [V,C,hm];rfl);have G:=vV i H;have u:=Pt W g i;have t:=O (Pp W g i);have F:=O R;have vD:=O C;have nP:=O (show x.1.kind=20 from V);have D:=O Z;have HX:=O X;have r:=O K;have HM:=O hm;have HE:=O E;have U:=HB.o;clear H C Y Z X K hm R E;go_in
 go_upto_region 1 with (fail)
 generalize (W.alloc (.cells #[.pointer (some ⟨g,0,none⟩)] 56)).alloc (.cells #[.int .i64 (i:Nat)] 3)=w0 at G u t ⊢
 have c0:w0.cell? ⟨g,0,none⟩=some (.slice (some ⟨b,o,none⟩) n c):=G.o.blk.cell 0;obtain⟨d2,d3⟩:=jR G;have jZ:=O u;have ug:g < w0.heap.size:=by omega
 have ub:b < w0.heap.size:=by omega
 have uW:W.heap.size < w0.heap.size:=by omega
 have yM:W.heap.size+1 < w0.heap.size:=by omega
 clear u;have k0:w0.cell? ⟨b,o+i * 5,none⟩=some (.int .u8 20):=by have h:=(F.o.below t.o).c0 i x r.o.hx;rw [nP.o] at h;exact h
 have k1:w0.cell? ⟨b,o+i * 5+1,none⟩=some (.string (aU x.1.text)):=(F.o.below t.o).c1 i x r.o.hx;have k2:w0.cell? ⟨b,o+i * 5+2,none⟩=some (.int .i64 x.1.n):=(F.o.below t.o).c2 i x r.o.hx;have k4:w0.cell? ⟨b,o+i * 5+4,none⟩=some (.int .i64 x.1.at_):=(F.o.below t.o).c4 i x r.o.hx;have k3:w0.cell? ⟨b,o+i * 5+3,none⟩=some (.slice J m kc):=by rw [HM.o,← vD.o];exact (F.o.below t.o).c3 i x r.o.hx
 go_region
 have I:=Pq i #[.int .u8 20,.string (aU x.1.text),.int .i64 x.1.n,.slice J m kc,.int .i64 x.1.at_] jZ.o G;rw [jZ.o]
 generalize (w0.alloc (.cells #[.int .u8 20,.string (aU x.1.text),.int .i64 x.1.n,.slice J m kc,.int .i64 x.1.at_] 39)).drew=iH at I ⊢
 clear U c0 k0 k1 k2 k3 k4 d2 d3 G uW yM ug ub jZ t F HB y0 y1;obtain⟨c2,c3,a,d,k⟩:=cO I;go_wp2_with fail;refine (yQ I [108,101,116] (i:Int) (by have:=D.o;simp [ak] at this;omega)).mono ?_;rintro e w1⟨vP,rfl,L⟩;clear c2 c3 a d k I;obtain⟨c2,c3,a,d,k⟩:=cO L;go_wp2_with fail;refine (EO L x.1.text (-1) (by simp) (by have:=D.o;simp [ak] at this ⊢;omega)).mono ?_;rintro e w2⟨l8,rfl,M⟩;clear c2 c3 a d k L;obtain⟨c2,c3,a,d,k⟩:=cO M;go_wp2_with fail;refine (EO M [61] (-1) (by simp) (by have:=D.o;simp [ak] at this ⊢;omega)).mono ?_;rintro e w3⟨sw,rfl,N⟩;clear c2 c3 a d k M;obtain⟨c2,c3,a,d,k⟩:=cO N;go_wp2_with fail;refine (Qi (Qh N HX.o r.o (EY _ _ _ _ _) (II _ _ _ _ _) (j:=0) (by omega) (HE.o 0 (by omega)) (by have:=D.o;rw [dR];simp [ak] at this ⊢;omega)) (by simp)).mono ?_;rintro e w4⟨B_,rfl,P⟩;clear c2 c3 a d k N;obtain⟨c2,c3,a,d,k⟩:=cO P;go_wp2_with fail;refine (EO P [105,110] (-1) (by simp) (by have:=D.o;simp [ak] at this ⊢;omega)).mono ?_;rintro e w5⟨pv5,rfl,Q⟩;clear c2 c3 a d k P;obtain⟨c2,c3,a,d,k⟩:=cO Q;go_wp2_with fail;refine (Qi (Qh Q HX.o r.o (EY _ _ _ _ _) (II _ _ _ _ _) (j:=1) (by omega) (HE.o 1 (by omega)) (by have:=D.o;rw [dR];simp [ak] at this ⊢;omega)) (by simp)).mono ?_;rintro e w6⟨pv6,rfl,H6⟩;clear c2 c3 a d k Q;obtain⟨c2,c3,a,d,k⟩:=cO H6;go_wp2_with fail;go_end0
 exact⟨_,rfl,O (by have h:=H6.o.xe;simpa [List.append_assoc] using h)⟩
theorem RG (H:Hid (PZ S B g w W (.slice A n c) iv pv ps))(X:CX w B A Bi n xs its)(K:KX w B g A n c iv xs its f i x)(hk:x.1.kind ≠ 1∧x.1.kind ≠ 2∧x.1.kind ≠ 3∧x.1.kind ≠ 4∧x.1.kind ≠ 5∧x.1.kind ≠ 19∧x.1.kind ≠ 20)(hf:0 < f)(R:∀ (S:Sz) (W:World) (pv:Value) (ps:List Pz) (b2 b3:Nat),(b2,56,#[.pointer (some ⟨g,0,none⟩)]) ∈ S→(b3,3,#[.int .i64 (i:Nat)]) ∈ S→Hid (PZ S B g w W (.slice A n c) iv pv ps)→ps.length+(aW ⟨aj xs,its⟩ (ah ⟨aj xs,its⟩ f) i).length≤1000000→Calls Tryz.prog 77 #[.pointer (some ⟨g,0,none⟩),.int .i64 i,.agg (j_ x),Dv b2 b3] W (kS S B g w (.slice A n c) iv (gH ps (aW ⟨aj xs,its⟩ (ah ⟨aj xs,its⟩ f) i))))
  (Y:ps.length+(aW ⟨aj xs,its⟩ (ah ⟨aj xs,its⟩ f) i).length≤1000000) :
  Calls Tryz.prog 35 #[.pointer (some ⟨g,0,none⟩),.int .i64 i] W (kS S B g w (.slice A n c) iv (gH ps (aW ⟨aj xs,its⟩ (ah ⟨aj xs,its⟩ f) i))):=by
 have hi:i < n:=by rw [← X.len];exact (aiq.1 K.hx).1
 obtain⟨b,o,hA,I⟩:=(X.at_ H.o).nodes (by have:=X.len;omega);have Q:=O I.lt;obtain⟨G,kc,t,hkl,L⟩:=X.kids H.o K.hx;obtain⟨m,M⟩:∃ m,m=x.1.kids.length:=⟨_,rfl⟩;obtain⟨kd,a⟩:∃ k,k=x.1.kind:=⟨_,rfl⟩;rw [← a] at hk
 subst hA;have y0:(0:Int)≤(i:Int):=by omega
 have y1:(i:Int) < (n:Int):=by omega
 have hg:=H.o.blk.lt;have Z:=O (show j_ x=#[.int .u8 (kd:Nat),.string (aU x.1.text),.int .i64 x.1.n,.slice G m kc,.int .i64 x.1.at_] from by unfold j_;rw [a,t,M]);have F:=vV i H;have r:=Pt W g i;have d:=O (Pp W g i);have u:=O I;have vD:=O t;have nP:=O (show x.1.kind=kd from a.symm);have HL:=O Y;have HX:=O X;have D:=O K;have HM:=O M;have HR:=O R;have J:=Q.o;clear H t L Y X K M I R a;have z1:((kd:Int) == 1)=false:=by simp;omega
 have z2:((kd:Int) == 2)=false:=by simp;omega
 have z3:((kd:Int) == 3)=false:=by simp;omega
 have z4:((kd:Int) == 4)=false:=by simp;omega
 have z5:((kd:Int) == 5)=false:=by simp;omega
 have z19:((kd:Int) == 19)=false:=by simp;omega
 have z20:((kd:Int) == 20)=false:=by simp;omega
 go_in
 go_upto_region 1 with (fail)
 generalize (W.alloc (.cells #[.pointer (some ⟨g,0,none⟩)] 56)).alloc (.cells #[.int .i64 (i:Nat)] 3)=w0 at F r d ⊢
 have c0:w0.cell? ⟨g,0,none⟩=some (.slice (some ⟨b,o,none⟩) n c):=F.o.blk.cell 0;obtain⟨d2,d3⟩:=jR F;have N:=O r;have ug:g < w0.heap.size:=by omega
 have ub:b < w0.heap.size:=by omega
 have uW:W.heap.size < w0.heap.size:=by omega
 have yM:W.heap.size+1 < w0.heap.size:=by omega
 clear r;have k0:w0.cell? ⟨b,o+i * 5,none⟩=some (.int .u8 (kd:Nat)):=by have h:=(u.o.below d.o).c0 i x D.o.hx;rw [nP.o] at h;exact h
 have k1:w0.cell? ⟨b,o+i * 5+1,none⟩=some (.string (aU x.1.text)):=(u.o.below d.o).c1 i x D.o.hx;have k2:w0.cell? ⟨b,o+i * 5+2,none⟩=some (.int .i64 x.1.n):=(u.o.below d.o).c2 i x D.o.hx;have k4:w0.cell? ⟨b,o+i * 5+4,none⟩=some (.int .i64 x.1.at_):=(u.o.below d.o).c4 i x D.o.hx;have k3:w0.cell? ⟨b,o+i * 5+3,none⟩=some (.slice G m kc):=by rw [HM.o,← vD.o];exact (u.o.below d.o).c3 i x D.o.hx
 go_region
 have C:=Pq i #[.int .u8 (kd:Nat),.string (aU x.1.text),.int .i64 x.1.n,.slice G m kc,.int .i64 x.1.at_] N.o F;rw [N.o]
 generalize (w0.alloc (.cells #[.int .u8 (kd:Nat),.string (aU x.1.text),.int .i64 x.1.n,.slice G m kc,.int .i64 x.1.at_] 39)).drew=iH at C ⊢
 clear J c0 k0 k1 k2 k3 k4 d2 d3 F uW yM ug ub N d u Q y0 y1;obtain⟨c2,c3,E,U,V⟩:=cO C;have iQ:_=_:=(C.o.kp _ (List.mem_cons_self ..)).1.cell 3;have jU:_=_:=(C.o.kp _ (List.mem_cons_self ..)).1.cell 4;simp only at iQ jU
 have T:=O (HR.o _ _ _ _ _ _ (EY _ _ _ _ _) (II _ _ _ _ _) C HL.o);rw [Z.o] at T
 go_wp2_with fail;refine (T.o).mono ?_;rintro e w1⟨vP,rfl,P⟩;clear c2 c3 E U V C;obtain⟨c2,c3,E,U,V⟩:=cO P;go_wp2_with fail;go_end0
 exact⟨_,rfl,O (by have h:=P.o.xe;exact h)⟩
end
end
set_option linter.all false
section
open Go.RowKit Mist
attribute [local go_sem] au aN aV aM aG
section
variable {S:Sz} {B g n c f i j q b2 b3 h:Nat} {cs:Array Value} {w W:World} {A Bi:Option Addr} {nv iv pv:Value} {ps l:List Pz} {xs:List NV} {its:List Int} {x y:NV}
theorem RQ (w:World)(k:Nat)(os:Array Obj):Below w.heap.size w (Go.Sort.grow (w.drewN k) os) :=
 ⟨rfl,rfl,rfl,by show w.heap.size≤(w.heap ++ os).size;rw [Array.size_append];omega,fun b a=>Array.getElem?_append_left a⟩
theorem vH {w w0 a:World}(m:Pow w)(h0:Below w.heap.size w w0)(o:w.heap.size≤w0.heap.size){N:Int}(r:-1000000≤N)(t:N≤1000000)(b:Below w0.heap.size w0 a) :
  Calls Tryz.prog 73 #[.int .i64 N] a fun e d=>e=.returned (.string (aU (Go.Lib.itoa N)))∧Below w0.heap.size w0 d:=by
 refine (Tryz.strconv_Itoa N (by omega) (by omega) a (m.on (h0.trans (b.mono o))).here).mono ?_;rintro e u⟨rfl,k,os,rfl⟩;exact⟨rfl,b.trans ((RQ a k os).mono b.size)⟩
def boolT (b:Bool):Bs:=if b then [116,114,117,101] else [102,97,108,115,101]
theorem aai (b:Bool)(W:World):Calls Tryz.prog 123 #[.bool b] W fun e a=>e=.returned (.string (aU (boolT b)))∧a=W:=by
 cases b <;>
 ·go_in
  go_wp2_with fail;go_ret;exact⟨rfl,rfl⟩
theorem acE (b:Bool)(W:World):Calls Tryz.prog 74 #[.bool b] W fun e a=>e=.returned (.string (aU (boolT b)))∧a=W:=by
 go_in
 go_wp2_with fail;refine (aai b W).mono ?_;rintro e d⟨rfl,rfl⟩;go_wp2_with fail;go_ret;exact⟨rfl,rfl⟩
theorem WH (H:Hid (PZ S B g w W (.slice A n c) iv pv ps))(X:CX w B A Bi n xs its)(K:KX w B g A n c iv xs its f i x)(Z:x.1.kind=1)(hf:0 < f)(n0:-1000000≤x.1.n)(n1:x.1.n≤1000000)
  (hl:ps.length+([tz (Go.Lib.itoa x.1.n) (i:Int)]).length≤1000000) :
  Calls Tryz.prog 35 #[.pointer (some ⟨g,0,none⟩),.int .i64 i] W (kS S B g w (.slice A n c) iv (gH ps ([tz (Go.Lib.itoa x.1.n) (i:Int)]))):=by
 have hi:i < n:=by rw [← X.len];exact (aiq.1 K.hx).1
 obtain⟨b,o,hA,N⟩:=(X.at_ H.o).nodes (by have:=X.len;omega);have Y:=O N.lt;obtain⟨E,kc,r,hkl,Q⟩:=X.kids H.o K.hx;obtain⟨m,R⟩:∃ m,m=x.1.kids.length:=⟨_,rfl⟩;subst hA;have y0:(0:Int)≤(i:Int):=by omega
 have y1:(i:Int) < (n:Int):=by omega
 have hg:=H.o.blk.lt;have EB:=O (show j_ x=#[.int .u8 1,.string (aU x.1.text),.int .i64 x.1.n,.slice E m kc,.int .i64 x.1.at_] from by unfold j_;rw [Z,r,R];rfl);have F:=vV i H;have k:=Pt W g i;have d:=O (Pp W g i);have t:=O N;have vD:=O r;have nP:=O (show x.1.kind=1 from Z);have HL:=O hl;have M:=O X;have C:=O K;have HM:=O R;have P:=Y.o;clear H r Q hl X K R N;have N0:=O n0;have N1:=O n1;clear n0 n1;go_in
 go_upto_region 1 with (fail)
 generalize (W.alloc (.cells #[.pointer (some ⟨g,0,none⟩)] 56)).alloc (.cells #[.int .i64 (i:Nat)] 3)=w0 at F k d ⊢
 have c0:w0.cell? ⟨g,0,none⟩=some (.slice (some ⟨b,o,none⟩) n c):=F.o.blk.cell 0;obtain⟨d2,d3⟩:=jR F;have T:=O k;have ug:g < w0.heap.size:=by omega
 have ub:b < w0.heap.size:=by omega
 have uW:W.heap.size < w0.heap.size:=by omega
 have yM:W.heap.size+1 < w0.heap.size:=by omega
 clear k;have k0:w0.cell? ⟨b,o+i * 5,none⟩=some (.int .u8 1):=by have h:=(t.o.below d.o).c0 i x C.o.hx;rw [nP.o] at h;exact h
 have k1:w0.cell? ⟨b,o+i * 5+1,none⟩=some (.string (aU x.1.text)):=(t.o.below d.o).c1 i x C.o.hx;have k2:w0.cell? ⟨b,o+i * 5+2,none⟩=some (.int .i64 x.1.n):=(t.o.below d.o).c2 i x C.o.hx;have k4:w0.cell? ⟨b,o+i * 5+4,none⟩=some (.int .i64 x.1.at_):=(t.o.below d.o).c4 i x C.o.hx;have k3:w0.cell? ⟨b,o+i * 5+3,none⟩=some (.slice E m kc):=by rw [HM.o,← vD.o];exact (t.o.below d.o).c3 i x C.o.hx
 go_region
 have D:=Pq i #[.int .u8 1,.string (aU x.1.text),.int .i64 x.1.n,.slice E m kc,.int .i64 x.1.at_] T.o F;rw [T.o]
 generalize (w0.alloc (.cells #[.int .u8 1,.string (aU x.1.text),.int .i64 x.1.n,.slice E m kc,.int .i64 x.1.at_] 39)).drew=iH at D ⊢
 clear P c0 k0 k1 k2 k3 k4 d2 d3 F uW yM ug ub T d t Y y0 y1;obtain⟨c2,c3,a,G,I⟩:=cO D;have L:=O fun (W2:World) (J:Below iH.heap.size iH W2)=>vH M.o.pow (D.o.IU.mono M.o.b) (Nat.le_trans M.o.b D.o.lw) N0.o N1.o J
 go_upto_region 6 with (fail)
 go_region_held3 (fun U=>U.cell? ⟨W.heap.size,0,none⟩=some (.pointer (some ⟨g,0,none⟩))∧U.cell? ⟨W.heap.size+1,0,none⟩=some (.int .i64 (i:Nat))∧U.cell? ⟨W.heap.size+2,2,none⟩=some (.int .i64 x.1.n)) (first | go_keep|(go_split_ands;refine⟨?_,?_,?_⟩ <;> assumption))
  ((first
    | (go_at_call 73
       refine (L.o _ (by (repeat (first|(with_reducible exact Below.refl _ _)|(with_reducible refine Below.drew ?_)));done)).mono ?_;rintro e wA⟨rfl,J⟩;have u:=O (D.o.below J);clear c2 c3 a G I J;obtain⟨c2,c3,a,G,I⟩:=cO u)
    | (go_at_call 54
       refine (yQ (S:=xS W.heap.size g i #[.int .u8 1,.string (aU x.1.text),.int .i64 x.1.n,.slice E m kc,.int .i64 x.1.at_] S) (by first | exact u | exact O u.o.drew | exact O u.o.drew.drew | exact O (u.o.drewN _)) (Go.Lib.itoa x.1.n) (i:Int) (by have:=HL.o;simp [ak] at this;omega)).mono ?_;rintro e w1⟨vP,rfl,V⟩;clear c2 c3 a G I;obtain⟨c2,c3,a,G,I⟩:=cO V)))
 all_goals
  go_wp2_with fail;go_end0
  exact⟨_,rfl,O V.o.xe⟩
theorem Rz (H:Hid (PZ S B g w W (.slice A n c) iv pv ps))(X:CX w B A Bi n xs its)(K:KX w B g A n c iv xs its f i x)(N:x.1.kind=2)(hf:0 < f)
  (J:ps.length+(aW ⟨aj xs,its⟩ (ah ⟨aj xs,its⟩ f) i).length≤1000000) :
  Calls Tryz.prog 35 #[.pointer (some ⟨g,0,none⟩),.int .i64 i] W (kS S B g w (.slice A n c) iv (gH ps (aW ⟨aj xs,its⟩ (ah ⟨aj xs,its⟩ f) i))):=by
 have en:=BQ (T:=⟨aj xs,its⟩) (B:=ah ⟨aj xs,its⟩ f) (i:=i) (by rw [aY its K.hx];exact N)
 try rw [aY its K.hx] at en
 rw [en] at J ⊢
 clear en;obtain⟨I,d⟩:∃ b,b=(x.1.n == 1):=⟨_,rfl⟩;have F:(if x.1.n=1 then ([116,114,117,101]:Bs) else [102,97,108,115,101])=boolT I:=by rw [d];unfold boolT;by_cases e:x.1.n=1 <;> simp [e]
 rw [F] at J ⊢
 have zb:(x.1.n == 1)=I:=d.symm;clear d F;have hi:i < n:=by rw [← X.len];exact (aiq.1 K.hx).1
 obtain⟨b,o,hA,L⟩:=(X.at_ H.o).nodes (by have:=X.len;omega);have Y:=O L.lt;obtain⟨D,kc,r,hkl,P⟩:=X.kids H.o K.hx;obtain⟨m,Q⟩:∃ m,m=x.1.kids.length:=⟨_,rfl⟩;subst hA;have y0:(0:Int)≤(i:Int):=by omega
 have y1:(i:Int) < (n:Int):=by omega
 have hg:=H.o.blk.lt;have EB:=O (show j_ x=#[.int .u8 2,.string (aU x.1.text),.int .i64 x.1.n,.slice D m kc,.int .i64 x.1.at_] from by unfold j_;rw [N,r,Q];rfl);have G:=vV i H;have k:=Pt W g i;have a:=O (Pp W g i);have t:=O L;have vD:=O r;have nP:=O (show x.1.kind=2 from N);have HL:=O J;have HX:=O X;have C:=O K;have HM:=O Q;have M:=Y.o;clear H r P J X K Q L;go_in
 go_upto_region 1 with (fail)
 generalize (W.alloc (.cells #[.pointer (some ⟨g,0,none⟩)] 56)).alloc (.cells #[.int .i64 (i:Nat)] 3)=w0 at G k a ⊢
 have c0:w0.cell? ⟨g,0,none⟩=some (.slice (some ⟨b,o,none⟩) n c):=G.o.blk.cell 0;obtain⟨d2,d3⟩:=jR G;have R:=O k;have ug:g < w0.heap.size:=by omega
 have ub:b < w0.heap.size:=by omega
 have uW:W.heap.size < w0.heap.size:=by omega
 have yM:W.heap.size+1 < w0.heap.size:=by omega
 clear k;have k0:w0.cell? ⟨b,o+i * 5,none⟩=some (.int .u8 2):=by have h:=(t.o.below a.o).c0 i x C.o.hx;rw [nP.o] at h;exact h
 have k1:w0.cell? ⟨b,o+i * 5+1,none⟩=some (.string (aU x.1.text)):=(t.o.below a.o).c1 i x C.o.hx;have k2:w0.cell? ⟨b,o+i * 5+2,none⟩=some (.int .i64 x.1.n):=(t.o.below a.o).c2 i x C.o.hx;have k4:w0.cell? ⟨b,o+i * 5+4,none⟩=some (.int .i64 x.1.at_):=(t.o.below a.o).c4 i x C.o.hx;have k3:w0.cell? ⟨b,o+i * 5+3,none⟩=some (.slice D m kc):=by rw [HM.o,← vD.o];exact (t.o.below a.o).c3 i x C.o.hx
 go_region
 have u:=Pq i #[.int .u8 2,.string (aU x.1.text),.int .i64 x.1.n,.slice D m kc,.int .i64 x.1.at_] R.o G;rw [R.o]
 generalize (w0.alloc (.cells #[.int .u8 2,.string (aU x.1.text),.int .i64 x.1.n,.slice D m kc,.int .i64 x.1.at_] 39)).drew=iH at u ⊢
 clear M c0 k0 k1 k2 k3 k4 d2 d3 G uW yM ug ub R a t Y y0 y1;obtain⟨c2,c3,E,Z,fD⟩:=cO u;go_upto_region 8 with (fail)
 go_region_held3 (fun U=>U.cell? ⟨W.heap.size,0,none⟩=some (.pointer (some ⟨g,0,none⟩))∧U.cell? ⟨W.heap.size+1,0,none⟩=some (.int .i64 (i:Nat))∧U.cell? ⟨W.heap.size+2,2,none⟩=some (.int .i64 x.1.n)) (first | go_keep|(go_split_ands;refine⟨?_,?_,?_⟩ <;> assumption))
  ((first
    | (go_at_call 74
       refine (acE I _).mono ?_;rintro e wA⟨rfl,rfl⟩)
    | (go_at_call 54
       refine (yQ (S:=xS W.heap.size g i #[.int .u8 2,.string (aU x.1.text),.int .i64 x.1.n,.slice D m kc,.int .i64 x.1.at_] S) (by first | exact u | exact O u.o.drew | exact O u.o.drew.drew | exact O (u.o.drewN _)) (boolT I) (i:Int) (by have:=HL.o;simp [ak] at this;omega)).mono ?_;rintro e w1⟨vP,rfl,V⟩;clear c2 c3 E Z fD;obtain⟨c2,c3,E,Z,fD⟩:=cO V)))
 all_goals
  go_wp2_with fail;go_end0
  exact⟨_,rfl,O V.o.xe⟩
theorem WG (H:Hid (PZ S B g w W (.slice A n c) iv pv ps))(X:CX w B A Bi n xs its)(K:KX w B g A n c iv xs its f i x)(V:x.1.kind=5)(hf:0 < f)(hm1:x.1.kids.length=1)(E:∀ j,j < x.1.kids.length→KE w B g A n c iv xs its f x j)
  (Z:ps.length+(aW ⟨aj xs,its⟩ (ah ⟨aj xs,its⟩ f) i).length≤1000000) :
  Calls Tryz.prog 35 #[.pointer (some ⟨g,0,none⟩),.int .i64 i] W (kS S B g w (.slice A n c) iv (gH ps (aW ⟨aj xs,its⟩ (ah ⟨aj xs,its⟩ f) i))):=by
 have en:=BZ (T:=⟨aj xs,its⟩) (B:=ah ⟨aj xs,its⟩ f) (i:=i) (by rw [aY its K.hx];exact V)
 try rw [aY its K.hx] at en
 rw [en] at Z ⊢
 clear en;have hi:i < n:=by rw [← X.len];exact (aiq.1 K.hx).1
 obtain⟨b,o,hA,R⟩:=(X.at_ H.o).nodes (by have:=X.len;omega);have HB:=O R.lt;obtain⟨I,kc,r,hkl,Y⟩:=X.kids H.o K.hx;obtain⟨m,hm⟩:∃ m,m=x.1.kids.length:=⟨_,rfl⟩;subst hA;have y0:(0:Int)≤(i:Int):=by omega
 have y1:(i:Int) < (n:Int):=by omega
 have hg:=H.o.blk.lt;have EB:=O (show j_ x=#[.int .u8 5,.string (aU x.1.text),.int .i64 x.1.n,.slice I m kc,.int .i64 x.1.at_] from by unfold j_;rw [V,r,hm];rfl);have J:=vV i H;have k:=Pt W g i;have d:=O (Pp W g i);have u:=O R;have vD:=O r;have nP:=O (show x.1.kind=5 from V);have HL:=O Z;have HX:=O X;have t:=O K;have HM:=O hm;have HE:=O E;have U:=HB.o;clear H r Y Z X K hm R E;go_in
 go_upto_region 1 with (fail)
 generalize (W.alloc (.cells #[.pointer (some ⟨g,0,none⟩)] 56)).alloc (.cells #[.int .i64 (i:Nat)] 3)=w0 at J k d ⊢
 have c0:w0.cell? ⟨g,0,none⟩=some (.slice (some ⟨b,o,none⟩) n c):=J.o.blk.cell 0;obtain⟨d2,d3⟩:=jR J;have jZ:=O k;have ug:g < w0.heap.size:=by omega
 have ub:b < w0.heap.size:=by omega
 have uW:W.heap.size < w0.heap.size:=by omega
 have yM:W.heap.size+1 < w0.heap.size:=by omega
 clear k;have k0:w0.cell? ⟨b,o+i * 5,none⟩=some (.int .u8 5):=by have h:=(u.o.below d.o).c0 i x t.o.hx;rw [nP.o] at h;exact h
 have k1:w0.cell? ⟨b,o+i * 5+1,none⟩=some (.string (aU x.1.text)):=(u.o.below d.o).c1 i x t.o.hx;have k2:w0.cell? ⟨b,o+i * 5+2,none⟩=some (.int .i64 x.1.n):=(u.o.below d.o).c2 i x t.o.hx;have k4:w0.cell? ⟨b,o+i * 5+4,none⟩=some (.int .i64 x.1.at_):=(u.o.below d.o).c4 i x t.o.hx;have k3:w0.cell? ⟨b,o+i * 5+3,none⟩=some (.slice I m kc):=by rw [HM.o,← vD.o];exact (u.o.below d.o).c3 i x t.o.hx
 go_region
 have P:=Pq i #[.int .u8 5,.string (aU x.1.text),.int .i64 x.1.n,.slice I m kc,.int .i64 x.1.at_] jZ.o J;rw [jZ.o]
 generalize (w0.alloc (.cells #[.int .u8 5,.string (aU x.1.text),.int .i64 x.1.n,.slice I m kc,.int .i64 x.1.at_] 39)).drew=iH at P ⊢
 clear U c0 k0 k1 k2 k3 k4 d2 d3 J uW yM ug ub jZ d u HB y0 y1;obtain⟨c2,c3,a,C,D⟩:=cO P;have HW:=O fun (W2:World) (L:Below iH.heap.size iH W2)=>QO L
 go_upto_region 18 with (fail)
 go_region_held3 (fun w'=>w'.cell? ⟨W.heap.size,0,none⟩=some (.pointer (some ⟨g,0,none⟩))∧w'.cell? ⟨W.heap.size+1,0,none⟩=some (.int .i64 (i:Nat))∧w'.cell? ⟨W.heap.size+2,0,none⟩=some (.int .u8 5)) (first | go_keep|(go_split_ands;refine⟨?_,?_,?_⟩ <;> assumption))
  ((first
    | (go_at_call 76
       refine (HW.o _ (by (repeat (first|(with_reducible exact Below.refl _ _)|(with_reducible refine Below.drew ?_)));done)).mono ?_;rintro e F⟨M,cc,rfl,Xc,L⟩;have G:=O (P.o.below L);have hlk:(Instr.lookup 94 (.map (some M)) (.int .u8 5) false).run Tryz.prog F=.ok (.string (aU [110,111,116])) F:=xB F M cc Xc 5;have Q:(Instr.lookup 94 (.map (some M)) (.int .u8 5) false).run Tryz.prog F.drew=.ok (.string (aU [110,111,116])) F.drew:=xB F.drew M cc Xc 5;clear c2 c3 a C D L;obtain⟨c2,c3,a,C,D⟩:=cO G)
    | (go_at_call 54
       refine (yQ (S:=xS W.heap.size g i #[.int .u8 5,.string (aU x.1.text),.int .i64 x.1.n,.slice I m kc,.int .i64 x.1.at_] S) (by first | exact G | exact O G.o.drew | exact O G.o.drew.drew | exact O (G.o.drewN _)) ([110,111,116]) (i:Int) (by have:=HL.o;simp [ak] at this;omega)).mono ?_;rintro e w1⟨vP,rfl,N⟩;clear hlk Q c2 c3 a C D;obtain⟨c2,c3,a,C,D⟩:=cO N)))
 all_goals
  go_wp2_with fail;refine (Qi (Qh N HX.o t.o (EY _ _ _ _ _) (II _ _ _ _ _) (j:=0) (by omega) (HE.o 0 (by omega)) (by have:=HL.o;rw [dR];simp [ak] at this ⊢;omega)) (by simp)).mono ?_;rintro e w2⟨l8,rfl,H2⟩;clear c2 c3 a C D N;obtain⟨c2,c3,a,C,D⟩:=cO H2;go_wp2_with fail;go_end0
  exact⟨_,rfl,O (by have h:=H2.o.xe;simpa [List.append_assoc] using h)⟩
end
end
set_option linter.all false
end Go.Proofs.YtajfdjikimiapaaGreatDoor
namespace Mist
theorem adf (Q:List Pz){k:List Pz}(h:k ≠ []):∃ p,(gH Q k)[Q.length]? = some p∧p.text=(k.headD default).text:=by
 cases k with
 | nil=>exact absurd rfl h
 | cons x r=>exact⟨⟨x.text,decide (0 < Q.length),x.node⟩,by unfold gH;rw [List.getElem?_append_right (aiv _),Nat.sub_self];rfl,rfl⟩
def NM (i:Int)(k0 k1 k2:List Pz):Nat→List Pz
 | 0=>[]
 | 1=>[tz [105,102] i] ++ aH true k0
 | 2=>[tz [105,102] i] ++ aH true k0 ++ [lz [116,104,101,110] (-1)] ++ aH true k1
 | _=>[tz [105,102] i] ++ aH true k0 ++ [lz [116,104,101,110] (-1)] ++ aH true k1 ++ [lz [101,108,115,101] (-1)] ++ aH true k2
end Mist
namespace Go.Proofs.YtajfdjikimiapaaGreatDoor
section
open Go.RowKit Mist
attribute [local go_sem] au aN aV aM aG
section
variable {S:Sz} {B g n c f i j q b2 b3 h:Nat} {cs:Array Value} {w W:World} {A Bi:Option Addr} {nv iv pv:Value} {ps l:List Pz} {xs:List NV} {its:List Int} {x y:NV}
theorem WE (H:Hid (PZ S B g w W (.slice A n c) iv pv ps))(X:CX w B A Bi n xs its)(K:KX w B g A n c iv xs its f i x)(hk:x.1.kind=4)(hf:0 < f)(hm1:x.1.kids.length=1)(E:∀ j,j < x.1.kids.length→KE w B g A n c iv xs its f x j)
  (hl:ps.length+(aW ⟨aj xs,its⟩ (ah ⟨aj xs,its⟩ f) i).length≤1000000) :
  Calls Tryz.prog 35 #[.pointer (some ⟨g,0,none⟩),.int .i64 i] W (kS S B g w (.slice A n c) iv (gH ps (aW ⟨aj xs,its⟩ (ah ⟨aj xs,its⟩ f) i))):=by
 have en:=BU (T:=⟨aj xs,its⟩) (B:=ah ⟨aj xs,its⟩ f) (i:=i) (by rw [aY its K.hx];exact hk)
 try rw [aY its K.hx] at en
 rw [en] at hl ⊢
 clear en;have hi:i < n:=by rw [← X.len];exact (aiq.1 K.hx).1
 obtain⟨b,o,hA,L⟩:=(X.at_ H.o).nodes (by have:=X.len;omega);have HB:=O L.lt;obtain⟨Ka,kc,G,hkl,hki⟩:=X.kids H.o K.hx;obtain⟨m,hm⟩:∃ m,m=x.1.kids.length:=⟨_,rfl⟩;subst hA;have y0:(0:Int)≤(i:Int):=by omega
 have y1:(i:Int) < (n:Int):=by omega
 have hg:=H.o.blk.lt;have EB:=O (show j_ x=#[.int .u8 4,.string (aU x.1.text),.int .i64 x.1.n,.slice Ka m kc,.int .i64 x.1.at_] from by unfold j_;rw [hk,G,hm];rfl);have iX:=vV i H;have F:=Pt W g i;have r:=O (Pp W g i);have J:=O L;have vD:=O G;have nP:=O (show x.1.kind=4 from hk);have K1:=O (K.ne hf 0 (.inr rfl));have HL:=O hl;have HX:=O X;have I:=O K;have HM:=O hm;have HE:=O E;have hbw:=HB.o;clear H G hki hl X K hm L E;go_in
 go_upto_region 1 with (fail)
 generalize (W.alloc (.cells #[.pointer (some ⟨g,0,none⟩)] 56)).alloc (.cells #[.int .i64 (i:Nat)] 3)=w0 at iX F r ⊢
 have c0:w0.cell? ⟨g,0,none⟩=some (.slice (some ⟨b,o,none⟩) n c):=iX.o.blk.cell 0;obtain⟨R,d3⟩:=jR iX;have jZ:=O F;have ug:g < w0.heap.size:=by omega
 have ub:b < w0.heap.size:=by omega
 have uW:W.heap.size < w0.heap.size:=by omega
 have yM:W.heap.size+1 < w0.heap.size:=by omega
 clear F;have k0:w0.cell? ⟨b,o+i * 5,none⟩=some (.int .u8 4):=by have h:=(J.o.below r.o).c0 i x I.o.hx;rw [nP.o] at h;exact h
 have k1:w0.cell? ⟨b,o+i * 5+1,none⟩=some (.string (aU x.1.text)):=(J.o.below r.o).c1 i x I.o.hx;have k2:w0.cell? ⟨b,o+i * 5+2,none⟩=some (.int .i64 x.1.n):=(J.o.below r.o).c2 i x I.o.hx;have k4:w0.cell? ⟨b,o+i * 5+4,none⟩=some (.int .i64 x.1.at_):=(J.o.below r.o).c4 i x I.o.hx;have k3:w0.cell? ⟨b,o+i * 5+3,none⟩=some (.slice Ka m kc):=by rw [HM.o,← vD.o];exact (J.o.below r.o).c3 i x I.o.hx
 go_region
 have HS:=Pq i #[.int .u8 4,.string (aU x.1.text),.int .i64 x.1.n,.slice Ka m kc,.int .i64 x.1.at_] jZ.o iX;rw [jZ.o]
 generalize (w0.alloc (.cells #[.int .u8 4,.string (aU x.1.text),.int .i64 x.1.n,.slice Ka m kc,.int .i64 x.1.at_] 39)).drew=iH at HS ⊢
 clear hbw c0 k0 k1 k2 k3 k4 R d3 iX uW yM ug ub jZ r J HB y0 y1;obtain⟨c2,c3,a,U,V⟩:=cO HS;obtain⟨M,hM⟩:∃ M,M=(gH ps [tz [45] (i:Int)]).length:=⟨_,rfl⟩;have k:=O hM;have hMl:M≤1000000:=by have:=HL.o;rw [hM,dR];simp [ak] at this ⊢;omega
 clear hM;go_wp2_with fail;refine (yQ HS [45] (i:Int) (by have:=HL.o;simp [ak] at this;omega)).mono ?_;rintro e w1⟨vP,rfl,P⟩;clear c2 c3 a U V HS;obtain⟨c2,c3,a,U,V⟩:=cO P;obtain⟨A1,cc1,Y⟩:=dh P.o.own;have R:w1.cell? ⟨g,2,none⟩=some (.slice A1 M cc1):=by rw [k.o,← Y];exact P.o.blk.cell 2
 clear Y;go_wp2_with fail;clear R;refine (Qh P HX.o I.o (EY _ _ _ _ _) (II _ _ _ _ _) (j:=0) (by omega) (HE.o 0 (by omega)) (by have:=HL.o;rw [dR];simp [ak] at this ⊢;omega)).mono ?_;rintro e w2⟨l8,rfl,Q⟩;clear c2 c3 a U V P;obtain⟨c2,c3,a,U,V⟩:=cO Q;obtain⟨pp,Z,u⟩:=adf (gH ps [tz [45] (i:Int)]) K1.o;obtain⟨gp,cap,D,C,hpl⟩:=Q.o.text Z;rw [← k.o] at C hpl
 obtain⟨N,L⟩:∃ N,N=(gH (gH ps [tz [45] (i:Int)]) (bM ⟨aj xs,its⟩ (ah ⟨aj xs,its⟩ f) i 0)).length:=⟨_,rfl⟩;rw [← L] at D hpl
 have R:w2.cell? ⟨g,2,none⟩=some (.slice (some ⟨gp,0,none⟩) N cap):=by rw [← D];exact Q.o.blk.cell 2
 have y0:(0:Int)≤(M:Int):=by omega
 have y1:(M:Int) < (N:Int):=by omega
 obtain⟨tt,Xk⟩:∃ t,t=pp.text:=⟨_,rfl⟩;rw [← Xk] at C u
 have HT:=O u;clear Z u D L Xk;by_cases d:tt=[45]
 ·have z1:(tt == [45])=true:=by rw [d];rfl
  have z2:(tt != [45])=false:=by rw [d];rfl
  have HD:=O (show decide (((bM ⟨aj xs,its⟩ (ah ⟨aj xs,its⟩ f) i 0).headD default).text=[45])=true from by rw [← HT.o,d];rfl);clear d;go_wp2_with fail;go_end0
  exact⟨_,rfl,O (by have h:=Q.o.xe;rw [qO ps _ _ (by simp)] at h;rw [HD.o];exact h)⟩
 ·have z1:(tt == [45])=false:=by simpa using d
  have z2:(tt != [45])=true:=by simpa using d
  have HD:=O (show decide (((bM ⟨aj xs,its⟩ (ah ⟨aj xs,its⟩ f) i 0).headD default).text=[45])=false from by rw [← HT.o];simpa using d);clear d;go_wp2_with fail;refine (cl1 Q M hMl).mono ?_;rintro e w3⟨sw,rfl,H3⟩;clear c2 c3 a U V R C;go_wp2_with fail;go_end0
  exact⟨_,rfl,O (by have h:=H3.o.xe;rw [k.o,uo,← uz ps (by simp)] at h;rw [HD.o];exact h)⟩
theorem aan (H:Hid (PZ S B g w W (.slice A n c) iv pv ps))(X:CX w B A Bi n xs its)(K:KX w B g A n c iv xs its f i x)(hk:x.1.kind=19)(hf:0 < f)(hm1:x.1.kids.length=3)(E:∀ j,j < x.1.kids.length→KE w B g A n c iv xs its f x j)
  (hl:ps.length+(aW ⟨aj xs,its⟩ (ah ⟨aj xs,its⟩ f) i).length≤1000000) :
  Calls Tryz.prog 35 #[.pointer (some ⟨g,0,none⟩),.int .i64 i] W (kS S B g w (.slice A n c) iv (gH ps (aW ⟨aj xs,its⟩ (ah ⟨aj xs,its⟩ f) i))):=by
 have en:=xD (T:=⟨aj xs,its⟩) (B:=ah ⟨aj xs,its⟩ f) (i:=i) (by rw [aY its K.hx];exact hk)
 try rw [aY its K.hx] at en
 rw [en] at hl ⊢
 clear en;have hi:i < n:=by rw [← X.len];exact (aiq.1 K.hx).1
 obtain⟨b,o,hA,hN⟩:=(X.at_ H.o).nodes (by have:=X.len;omega);have HB:=O hN.lt;obtain⟨P,kc,I,hkl,hki⟩:=X.kids H.o K.hx;obtain⟨m,hm⟩:∃ m,m=x.1.kids.length:=⟨_,rfl⟩;subst hA;have y0:(0:Int)≤(i:Int):=by omega
 have y1:(i:Int) < (n:Int):=by omega
 have hg:=H.o.blk.lt;have EB:=O (show j_ x=#[.int .u8 19,.string (aU x.1.text),.int .i64 x.1.n,.slice P m kc,.int .i64 x.1.at_] from by unfold j_;rw [hk,I,hm];rfl);have U:=vV i H;have G:=Pt W g i;have D:=O (Pp W g i);have M:=O hN;have vD:=O I;have nP:=O (show x.1.kind=19 from hk);have L:=O hl;have HX:=O X;have u:=O K;have HM:=O hm;have Y:=O E;have hbw:=HB.o;clear H I hki hl X K hm hN E;go_in
 go_upto_region 1 with (fail)
 generalize (W.alloc (.cells #[.pointer (some ⟨g,0,none⟩)] 56)).alloc (.cells #[.int .i64 (i:Nat)] 3)=w0 at U G D ⊢
 have c0:w0.cell? ⟨g,0,none⟩=some (.slice (some ⟨b,o,none⟩) n c):=U.o.blk.cell 0;obtain⟨d2,d3⟩:=jR U;have jZ:=O G;have ug:g < w0.heap.size:=by omega
 have ub:b < w0.heap.size:=by omega
 have uW:W.heap.size < w0.heap.size:=by omega
 have yM:W.heap.size+1 < w0.heap.size:=by omega
 clear G;have k0:w0.cell? ⟨b,o+i * 5,none⟩=some (.int .u8 19):=by have h:=(M.o.below D.o).c0 i x u.o.hx;rw [nP.o] at h;exact h
 have k1:w0.cell? ⟨b,o+i * 5+1,none⟩=some (.string (aU x.1.text)):=(M.o.below D.o).c1 i x u.o.hx;have k2:w0.cell? ⟨b,o+i * 5+2,none⟩=some (.int .i64 x.1.n):=(M.o.below D.o).c2 i x u.o.hx;have k4:w0.cell? ⟨b,o+i * 5+4,none⟩=some (.int .i64 x.1.at_):=(M.o.below D.o).c4 i x u.o.hx;have k3:w0.cell? ⟨b,o+i * 5+3,none⟩=some (.slice P m kc):=by rw [HM.o,← vD.o];exact (M.o.below D.o).c3 i x u.o.hx
 go_region
 have HS:=Pq i #[.int .u8 19,.string (aU x.1.text),.int .i64 x.1.n,.slice P m kc,.int .i64 x.1.at_] jZ.o U;rw [jZ.o]
 generalize (w0.alloc (.cells #[.int .u8 19,.string (aU x.1.text),.int .i64 x.1.n,.slice P m kc,.int .i64 x.1.at_] 39)).drew=iH at HS ⊢
 clear hbw c0 k0 k1 k2 k3 k4 d2 d3 U uW yM ug ub jZ D M HB y0 y1;obtain⟨c2,c3,a,k,r⟩:=cO HS;obtain⟨hh,F⟩:∃ h,h=iH.heap.size:=⟨_,rfl⟩;have vY:=O (HS.o.box (T:=9) (cs:=#[.string (aU [105,102]),.string (aU [116,104,101,110]),.string (aU [101,108,115,101])]) (by decide));rw [← F] at vY
 have Z:=O F.symm;clear F;have R:=O (show gH ps (NM (i:Int) (bM ⟨aj xs,its⟩ (ah ⟨aj xs,its⟩ f) i 0) (bM ⟨aj xs,its⟩ (ah ⟨aj xs,its⟩ f) i 1) (bM ⟨aj xs,its⟩ (ah ⟨aj xs,its⟩ f) i 2) 0)=ps from Ia ps);go_wp2_with fail;rw [Z.o];go_loopw [7,8,9,89] (fun _ _ _ J wr=>∃ (C:Nat) (pv':Value),C≤3∧J=.int .i64 C∧Hid (PZ ((hh,9,#[.string (aU [105,102]),.string (aU [116,104,101,110]),.string (aU [101,108,115,101])]) :: xS W.heap.size g i #[.int .u8 19,.string (aU x.1.text),.int .i64 x.1.n,.slice P m kc,.int .i64 x.1.at_] S) B g w wr (.slice (some ⟨b,o,none⟩) n c) iv pv' (gH ps (NM (i:Int) (bM ⟨aj xs,its⟩ (ah ⟨aj xs,its⟩ f) i 0) (bM ⟨aj xs,its⟩ (ah ⟨aj xs,its⟩ f) i 1) (bM ⟨aj xs,its⟩ (ah ⟨aj xs,its⟩ f) i 2) C)))) (fun _ _ _ J _=>3 - (intOf J).toNat)
 case atStart=>exact⟨0,pv,by omega,rfl,by rw [R.o];exact vY⟩
 case round =>
  obtain⟨C,vP,hmm,rfl,t⟩:=hrel;clear c2 c3 a k r;obtain⟨c2,c3,a,k,r⟩:=cO (O t.o.tl);rcases (by omega:C=0∨C=1∨C=2∨C=3) with rfl | rfl | rfl | rfl
  ·have Q:=(t.o.kp _ (List.mem_cons_self ..)).1.cell 0;go_wp2_with fail;rw [R.o] at t
   refine (yQ t [105,102] (i:Int) (by have:=L.o;simp [ak] at this;omega)).mono ?_;rintro e w2⟨l8,rfl,d⟩;clear c2 c3 a k r Q;obtain⟨c2,c3,a,k,r⟩:=cO (O d.o.tl);go_wp2_with fail;refine (Qi (l:=[tz [105,102] (i:Int)]) (Qh d HX.o u.o (List.mem_cons_of_mem _ (EY _ _ _ _ _)) (List.mem_cons_of_mem _ (II _ _ _ _ _)) (j:=0) (by omega) (Y.o 0 (by omega)) (by have:=L.o;rw [dR];simp [ak,NM] at this ⊢;omega)) (by simp)).mono ?_;rintro e w3⟨V,rfl,N⟩;clear c2 c3 a k r d;go_wp2_with fail;exact⟨⟨1,V,by omega,by go_num,O (by have h:=N.o;simpa [NM] using h)⟩,by simp [intOf]⟩
  ·have Q:=(t.o.kp _ (List.mem_cons_self ..)).1.cell 1;go_wp2_with fail;refine (EO t [116,104,101,110] (-1) (by simp [NM]) (by have:=L.o;simp [ak,NM] at this ⊢;omega)).mono ?_;rintro e w2⟨l8,rfl,d⟩;clear c2 c3 a k r Q;obtain⟨c2,c3,a,k,r⟩:=cO (O d.o.tl);go_wp2_with fail;refine (Qi (l:=(NM (i:Int) (bM ⟨aj xs,its⟩ (ah ⟨aj xs,its⟩ f) i 0) (bM ⟨aj xs,its⟩ (ah ⟨aj xs,its⟩ f) i 1) (bM ⟨aj xs,its⟩ (ah ⟨aj xs,its⟩ f) i 2) 1 ++ [lz [116,104,101,110] (-1)])) (Qh d HX.o u.o (List.mem_cons_of_mem _ (EY _ _ _ _ _)) (List.mem_cons_of_mem _ (II _ _ _ _ _)) (j:=1) (by omega) (Y.o 1 (by omega)) (by have:=L.o;rw [dR];simp [ak,NM] at this ⊢;omega)) (by simp)).mono ?_;rintro e w3⟨V,rfl,N⟩;clear c2 c3 a k r d;go_wp2_with fail;exact⟨⟨2,V,by omega,by go_num,O (by have h:=N.o;simpa [NM] using h)⟩,by simp [intOf]⟩
  ·have Q:=(t.o.kp _ (List.mem_cons_self ..)).1.cell 2;go_wp2_with fail;refine (EO t [101,108,115,101] (-1) (by simp [NM]) (by have:=L.o;simp [ak,NM] at this ⊢;omega)).mono ?_;rintro e w2⟨l8,rfl,d⟩;clear c2 c3 a k r Q;obtain⟨c2,c3,a,k,r⟩:=cO (O d.o.tl);go_wp2_with fail;refine (Qi (l:=(NM (i:Int) (bM ⟨aj xs,its⟩ (ah ⟨aj xs,its⟩ f) i 0) (bM ⟨aj xs,its⟩ (ah ⟨aj xs,its⟩ f) i 1) (bM ⟨aj xs,its⟩ (ah ⟨aj xs,its⟩ f) i 2) 2 ++ [lz [101,108,115,101] (-1)])) (Qh d HX.o u.o (List.mem_cons_of_mem _ (EY _ _ _ _ _)) (List.mem_cons_of_mem _ (II _ _ _ _ _)) (j:=2) (by omega) (Y.o 2 (by omega)) (by have:=L.o;rw [dR];simp [ak,NM] at this ⊢;omega)) (by simp)).mono ?_;rintro e w3⟨V,rfl,N⟩;clear c2 c3 a k r d;go_wp2_with fail;exact⟨⟨3,V,by omega,by go_num,O (by have h:=N.o;simpa [NM] using h)⟩,by simp [intOf]⟩
  ·go_wp2_with fail;go_end0
   exact⟨vP,rfl,O (by have h:=t.o.tl.xe;simpa [NM] using h)⟩
end
end
