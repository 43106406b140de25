/-
  A part of the proof.
-/
import Derived.Test.YtflnfhhgamldhaaGreatDoorS17
set_option linter.all false
set_option maxRecDepth 100000
set_option maxHeartbeats 4000000
set_option linter.all false
namespace Go.Proofs.YtflnfhhgamldhaaGreatDoor
section
open Go.RowKit Mist
attribute [local go_sem] ah aM aV au ak
abbrev xS (h g i:Nat) (cs:Array Value) (S:Sz):Sz:=(h+2,50,cs) :: (h+1,3,#[.int .i64 (i:Nat)]) :: (h,58,#[.pointer (some ⟨g,0,none⟩)]) :: S
section
variable {S:Sz} {B g n c f i j q b2 b3 h:Nat} {cs:Array Value} {w W:World} {A Bi:Option Addr} {nv iv pv:Value} {ps l:List Pz} {xs:List NV} {its:List Int} {x y:NV}
theorem Rq (W:World)(g i:Nat):((W.alloc (.cells #[.pointer (some ⟨g,0,none⟩)] 58)).alloc (.cells #[.int .i64 (i:Nat)] 3)).heap.size=W.heap.size+2:=by simp
theorem Ro (W:World)(g i:Nat):Below W.heap.size W ((W.alloc (.cells #[.pointer (some ⟨g,0,none⟩)] 58)).alloc (.cells #[.int .i64 (i:Nat)] 3)):=((Below.refl _ _).alloc (ak0 _) _).alloc (by simp) _
abbrev xS0 (h g i:Nat) (S:Sz):Sz:=(h+1,3,#[.int .i64 (i:Nat)]) :: (h,58,#[.pointer (some ⟨g,0,none⟩)]) :: S
theorem wV (i:Nat)(H:Hid (PZ S B g w W nv iv pv ps)):Hid (PZ (xS0 W.heap.size g i S) B g w ((W.alloc (.cells #[.pointer (some ⟨g,0,none⟩)] 58)).alloc (.cells #[.int .i64 (i:Nat)] 3)) nv iv pv ps):=by
 have a:(W.alloc (.cells #[.pointer (some ⟨g,0,none⟩)] 58)).heap.size=W.heap.size+1:=by simp
 have h3:=(H.o.box (T:=58) (cs:=#[.pointer (some ⟨g,0,none⟩)]) (by decide)).box (T:=3) (cs:=#[.int .i64 (i:Nat)]) (by decide);rw [a] at h3
 exact O h3
theorem kM (H:Hid (PZ (xS0 h g i S) B g w W nv iv pv ps)):W.cell? ⟨h,0,none⟩=some (.pointer (some ⟨g,0,none⟩))∧W.cell? ⟨h+1,0,none⟩=some (.int .i64 (i:Nat)) :=
 ⟨(H.o.kp _ (List.mem_cons_of_mem _ (List.mem_cons_self ..))).1.cell 0,(H.o.kp _ (List.mem_cons_self ..)).1.cell 0⟩
theorem Rp (i:Nat)(cs:Array Value)(a:W.heap.size=h+2)(H:Hid (PZ (xS0 h g i S) B g w W nv iv pv ps)):Hid (PZ (xS h g i cs S) B g w (W.alloc (.cells cs 50)).drew nv iv pv ps):=by
 have h3:=H.o.box (T:=50) (cs:=cs) (by decide);rw [a] at h3
 exact O h3.drew
theorem dJ (H:Hid (PZ (xS h g i cs S) B g w W nv iv pv ps)):W.cell? ⟨h,0,none⟩=some (.pointer (some ⟨g,0,none⟩))∧W.cell? ⟨h+1,0,none⟩=some (.int .i64 (i:Nat))∧W.cell? ⟨h+2,0,none⟩=cs[0]? ∧ W.cell? ⟨h+2,1,none⟩=cs[1]? ∧ W.cell? ⟨h+2,2,none⟩=cs[2]? :=
 ⟨(H.o.kp _ (List.mem_cons_of_mem _ (List.mem_cons_of_mem _ (List.mem_cons_self ..)))).1.cell 0,(H.o.kp _ (List.mem_cons_of_mem _ (List.mem_cons_self ..))).1.cell 0,(H.o.kp _ (List.mem_cons_self ..)).1.cell 0,(H.o.kp _ (List.mem_cons_self ..)).1.cell 1,(H.o.kp _ (List.mem_cons_self ..)).1.cell 2⟩
theorem Gn (h g i:Nat)(cs:Array Value)(S:Sz):(h,58,#[.pointer (some ⟨g,0,none⟩)]) ∈ xS h g i cs S:=List.mem_cons_of_mem _ (List.mem_cons_of_mem _ (List.mem_cons_self ..))
theorem Kc (h g i:Nat)(cs:Array Value)(S:Sz):(h+1,3,#[.int .i64 (i:Nat)]) ∈ xS h g i cs S:=List.mem_cons_of_mem _ (List.mem_cons_self ..)
theorem PZ.xe (H:PZ (xS h g i cs S) B g w W nv iv pv ps):PZ S B g w W nv iv pv ps:=H.tl.tl.tl
theorem Sb {a:Nat}{args:Array Value}{r:List Pz}(b:Calls Tryz.prog a args W (l7 S B g w nv iv (iG (iG ps l) r)))(d:l ≠ []):Calls Tryz.prog a args W (l7 S B g w nv iv (iG ps (l ++ dI true r))):=by
 rw [sD ps l r d] at b;exact b
theorem PZ.text (H:PZ S B g w W nv iv pv ps){a:Nat}{p:Pz}(e:ps[a]? = some p):∃ b cap,pv=.slice (some ⟨b,0,none⟩) ps.length cap∧W.cell? ⟨b,a * 3,none⟩=some (.string (aH p.text))∧a < ps.length:=by
 have k:a < ps.length:=(akV.1 e).1;obtain⟨A,c,rfl⟩:=d_ H.own;obtain⟨b,cap,hv,_⟩:=H.own.form (by omega);injection hv with d
 subst d
 refine⟨b,c,rfl,?_,k⟩
 rw [H.own.cellAt (a * 3) (by omega)];exact uV ps a 0 p _ e rfl
theorem cl1 (H:Hid (PZ S B g w W nv iv pv ps))(a:Nat)(b:a≤1000000):Calls Tryz.prog 94 #[.pointer (some ⟨g,0,none⟩),.int .i64 a] W (l7 S B g w nv iv (nJ a ps)):=(RV H.o a b).mono fun _ _ h=>pzE h
theorem Ud (H:Hid (PZ S B g w W (.slice A n c) iv pv ps))(X:CX w B A Bi n xs its)(K:KX w B g A n c iv xs its f i x)(G:x.1.kind=3)(hf:0 < f)
  (J:ps.length+(cZ ⟨aF xs,its⟩ (aQ ⟨aF xs,its⟩ f) i).length≤1000000) :
  Calls Tryz.prog 101 #[.pointer (some ⟨g,0,none⟩),.int .i64 i] W (l7 S B g w (.slice A n c) iv (iG ps (cZ ⟨aF xs,its⟩ (aQ ⟨aF xs,its⟩ f) i))):=by
 have en:=JC (T:=⟨aF xs,its⟩) (B:=aQ ⟨aF xs,its⟩ f) (i:=i) (by rw [bI its K.hx];exact G)
 try rw [bI its K.hx] at en
 rw [en] at J ⊢
 clear en;have hi:i < n:=by rw [← X.len];exact (akV.1 K.hx).1
 obtain⟨b,o,hA,E⟩:=(X.at_ H.o).nodes (by have:=X.len;omega);have P:=O E.lt;obtain⟨D,kc,d,hkl,I⟩:=X.kids H.o K.hx;obtain⟨m,L⟩:∃ m,m=x.1.kids.length:=⟨_,rfl⟩;subst hA;have y0:(0:Int)≤(i:Int):=by omega
 have y1:(i:Int) < (n:Int):=by omega
 have hg:=H.o.blk.lt;have EB:=O (show lg x=#[.int .u8 3,.string (aH x.1.text),.int .i64 x.1.n,.slice D m kc,.int .i64 x.1.at_] from by unfold lg;rw [G,d,L];rfl);have v:=wV i H;have a:=Rq W g i;have k:=O (Ro W g i);have r:=O E;have xL:=O d;have tV:=O (show x.1.kind=3 from G);have U:=O J;have HX:=O X;have t:=O K;have V:=O L;have F:=P.o;clear H d I J X K L E;go_in
 go_upto_region 1 with (fail)
 generalize (W.alloc (.cells #[.pointer (some ⟨g,0,none⟩)] 58)).alloc (.cells #[.int .i64 (i:Nat)] 3)=w0 at v a k ⊢
 have Y:w0.cell? ⟨g,0,none⟩=some (.slice (some ⟨b,o,none⟩) n c):=v.o.blk.cell 0;obtain⟨Z,d3⟩:=kM v;have M:=O a;have ug:g < w0.heap.size:=by omega
 have ub:b < w0.heap.size:=by omega
 have uW:W.heap.size < w0.heap.size:=by omega
 have zh:W.heap.size+1 < w0.heap.size:=by omega
 clear a;have k0:w0.cell? ⟨b,o+i * 5,none⟩=some (.int .u8 3):=by have h:=(r.o.below k.o).c0 i x t.o.hx;rw [tV.o] at h;exact h
 have k1:w0.cell? ⟨b,o+i * 5+1,none⟩=some (.string (aH x.1.text)):=(r.o.below k.o).c1 i x t.o.hx;have k2:w0.cell? ⟨b,o+i * 5+2,none⟩=some (.int .i64 x.1.n):=(r.o.below k.o).c2 i x t.o.hx;have k4:w0.cell? ⟨b,o+i * 5+4,none⟩=some (.int .i64 x.1.at_):=(r.o.below k.o).c4 i x t.o.hx;have k3:w0.cell? ⟨b,o+i * 5+3,none⟩=some (.slice D m kc):=by rw [V.o,← xL.o];exact (r.o.below k.o).c3 i x t.o.hx
 go_region
 have C:=Rp i #[.int .u8 3,.string (aH x.1.text),.int .i64 x.1.n,.slice D m kc,.int .i64 x.1.at_] M.o v;rw [M.o]
 generalize (w0.alloc (.cells #[.int .u8 3,.string (aH x.1.text),.int .i64 x.1.n,.slice D m kc,.int .i64 x.1.at_] 50)).drew=jy at C ⊢
 clear F Y k0 k1 k2 k3 k4 Z d3 v uW zh ug ub M k r P y0 y1;obtain⟨c2,c3,u,Q,R⟩:=dJ C;go_wp2_with fail;refine (zC C x.1.text (i:Int) (by have:=U.o;simp [aj] at this;omega)).mono ?_;rintro e w1⟨wP,rfl,N⟩;clear c2 c3 u Q R C;obtain⟨c2,c3,u,Q,R⟩:=dJ N;go_wp2_with fail;go_end0
 exact⟨_,rfl,O (by have h:=N.o.xe;simpa [List.append_assoc] using h)⟩
theorem YR (H:Hid (PZ S B g w W (.slice A n c) iv pv ps))(X:CX w B A Bi n xs its)(K:KX w B g A n c iv xs its f i x)(U:x.1.kind=20)(hf:0 < f)(hm1:x.1.kids.length=2)(E:∀ j,j < x.1.kids.length→KE w B g A n c iv xs its f x j)
  (Y:ps.length+(cZ ⟨aF xs,its⟩ (aQ ⟨aF xs,its⟩ f) i).length≤1000000) :
  Calls Tryz.prog 101 #[.pointer (some ⟨g,0,none⟩),.int .i64 i] W (l7 S B g w (.slice A n c) iv (iG ps (cZ ⟨aF xs,its⟩ (aQ ⟨aF xs,its⟩ f) i))):=by
 have en:=Em (T:=⟨aF xs,its⟩) (B:=aQ ⟨aF xs,its⟩ f) (i:=i) (by rw [bI its K.hx];exact U)
 try rw [bI its K.hx] at en
 rw [en] at Y ⊢
 clear en;have hi:i < n:=by rw [← X.len];exact (akV.1 K.hx).1
 obtain⟨b,o,hA,Q⟩:=(X.at_ H.o).nodes (by have:=X.len;omega);have HB:=O Q.lt;obtain⟨I,kc,u,hkl,V⟩:=X.kids H.o K.hx;obtain⟨m,Z⟩:∃ m,m=x.1.kids.length:=⟨_,rfl⟩;subst hA;have y0:(0:Int)≤(i:Int):=by omega
 have y1:(i:Int) < (n:Int):=by omega
 have hg:=H.o.blk.lt;have EB:=O (show lg x=#[.int .u8 20,.string (aH x.1.text),.int .i64 x.1.n,.slice I m kc,.int .i64 x.1.at_] from by unfold lg;rw [U,u,Z];rfl);have F:=wV i H;have t:=Rq W g i;have v:=O (Ro W g i);have D:=O Q;have xL:=O u;have tV:=O (show x.1.kind=20 from U);have C:=O Y;have HX:=O X;have r:=O K;have HM:=O Z;have HE:=O E;have R:=HB.o;clear H u V Y X K Z Q E;go_in
 go_upto_region 1 with (fail)
 generalize (W.alloc (.cells #[.pointer (some ⟨g,0,none⟩)] 58)).alloc (.cells #[.int .i64 (i:Nat)] 3)=w0 at F t v ⊢
 have c0:w0.cell? ⟨g,0,none⟩=some (.slice (some ⟨b,o,none⟩) n c):=F.o.blk.cell 0;obtain⟨d2,d3⟩:=kM F;have lM:=O t;have ug:g < w0.heap.size:=by omega
 have ub:b < w0.heap.size:=by omega
 have uW:W.heap.size < w0.heap.size:=by omega
 have zh:W.heap.size+1 < w0.heap.size:=by omega
 clear t;have k0:w0.cell? ⟨b,o+i * 5,none⟩=some (.int .u8 20):=by have h:=(D.o.below v.o).c0 i x r.o.hx;rw [tV.o] at h;exact h
 have k1:w0.cell? ⟨b,o+i * 5+1,none⟩=some (.string (aH x.1.text)):=(D.o.below v.o).c1 i x r.o.hx;have k2:w0.cell? ⟨b,o+i * 5+2,none⟩=some (.int .i64 x.1.n):=(D.o.below v.o).c2 i x r.o.hx;have k4:w0.cell? ⟨b,o+i * 5+4,none⟩=some (.int .i64 x.1.at_):=(D.o.below v.o).c4 i x r.o.hx;have k3:w0.cell? ⟨b,o+i * 5+3,none⟩=some (.slice I m kc):=by rw [HM.o,← xL.o];exact (D.o.below v.o).c3 i x r.o.hx
 go_region
 have G:=Rp i #[.int .u8 20,.string (aH x.1.text),.int .i64 x.1.n,.slice I m kc,.int .i64 x.1.at_] lM.o F;rw [lM.o]
 generalize (w0.alloc (.cells #[.int .u8 20,.string (aH x.1.text),.int .i64 x.1.n,.slice I m kc,.int .i64 x.1.at_] 50)).drew=jy at G ⊢
 clear R c0 k0 k1 k2 k3 k4 d2 d3 F uW zh ug ub lM v D HB y0 y1;obtain⟨c2,c3,a,d,k⟩:=dJ G;go_wp2_with fail;refine (zC G [108,101,116] (i:Int) (by have:=C.o;simp [aj] at this;omega)).mono ?_;rintro e w1⟨wP,rfl,J⟩;clear c2 c3 a d k G;obtain⟨c2,c3,a,d,k⟩:=dJ J;go_wp2_with fail;refine (Gf J x.1.text (-1) (by simp) (by have:=C.o;simp [aj] at this ⊢;omega)).mono ?_;rintro e w2⟨mZ,rfl,L⟩;clear c2 c3 a d k J;obtain⟨c2,c3,a,d,k⟩:=dJ L;go_wp2_with fail;refine (Gf L [61] (-1) (by simp) (by have:=C.o;simp [aj] at this ⊢;omega)).mono ?_;rintro e w3⟨tX,rfl,M⟩;clear c2 c3 a d k L;obtain⟨c2,c3,a,d,k⟩:=dJ M;go_wp2_with fail;refine (Sb (R_ M HX.o r.o (Gn _ _ _ _ _) (Kc _ _ _ _ _) (j:=0) (by omega) (HE.o 0 (by omega)) (by have:=C.o;rw [eU];simp [aj] at this ⊢;omega)) (by simp)).mono ?_;rintro e w4⟨Cw,rfl,N⟩;clear c2 c3 a d k M;obtain⟨c2,c3,a,d,k⟩:=dJ N;go_wp2_with fail;refine (Gf N [105,110] (-1) (by simp) (by have:=C.o;simp [aj] at this ⊢;omega)).mono ?_;rintro e w5⟨pv5,rfl,P⟩;clear c2 c3 a d k N;obtain⟨c2,c3,a,d,k⟩:=dJ P;go_wp2_with fail;refine (Sb (R_ P HX.o r.o (Gn _ _ _ _ _) (Kc _ _ _ _ _) (j:=1) (by omega) (HE.o 1 (by omega)) (by have:=C.o;rw [eU];simp [aj] at this ⊢;omega)) (by simp)).mono ?_;rintro e w6⟨pv6,rfl,H6⟩;clear c2 c3 a d k P;obtain⟨c2,c3,a,d,k⟩:=dJ H6;go_wp2_with fail;go_end0
 exact⟨_,rfl,O (by have h:=H6.o.xe;simpa [List.append_assoc] using h)⟩
theorem Ue (H:Hid (PZ S B g w W (.slice A n c) iv pv ps))(X:CX w B A Bi n xs its)(K:KX w B g A n c iv xs its f i x)(hk:x.1.kind ≠ 1∧x.1.kind ≠ 2∧x.1.kind ≠ 3∧x.1.kind ≠ 4∧x.1.kind ≠ 5∧x.1.kind ≠ 19∧x.1.kind ≠ 20)(hf:0 < f)(R:∀ (S:Sz) (W:World) (pv:Value) (ps:List Pz) (b2 b3:Nat),(b2,58,#[.pointer (some ⟨g,0,none⟩)]) ∈ S→(b3,3,#[.int .i64 (i:Nat)]) ∈ S→Hid (PZ S B g w W (.slice A n c) iv pv ps)→ps.length+(cZ ⟨aF xs,its⟩ (aQ ⟨aF xs,its⟩ f) i).length≤1000000→Calls Tryz.prog 143 #[.pointer (some ⟨g,0,none⟩),.int .i64 i,.agg (lg x),D8 b2 b3] W (l7 S B g w (.slice A n c) iv (iG ps (cZ ⟨aF xs,its⟩ (aQ ⟨aF xs,its⟩ f) i))))
  (V:ps.length+(cZ ⟨aF xs,its⟩ (aQ ⟨aF xs,its⟩ f) i).length≤1000000) :
  Calls Tryz.prog 101 #[.pointer (some ⟨g,0,none⟩),.int .i64 i] W (l7 S B g w (.slice A n c) iv (iG ps (cZ ⟨aF xs,its⟩ (aQ ⟨aF xs,its⟩ f) i))):=by
 have hi:i < n:=by rw [← X.len];exact (akV.1 K.hx).1
 obtain⟨b,o,hA,G⟩:=(X.at_ H.o).nodes (by have:=X.len;omega);have P:=O G.lt;obtain⟨F,kc,r,hkl,J⟩:=X.kids H.o K.hx;obtain⟨m,L⟩:∃ m,m=x.1.kids.length:=⟨_,rfl⟩;obtain⟨kd,a⟩:∃ k,k=x.1.kind:=⟨_,rfl⟩;rw [← a] at hk
 subst hA;have y0:(0:Int)≤(i:Int):=by omega
 have y1:(i:Int) < (n:Int):=by omega
 have hg:=H.o.blk.lt;have Y:=O (show lg x=#[.int .u8 (kd:Nat),.string (aH x.1.text),.int .i64 x.1.n,.slice F m kc,.int .i64 x.1.at_] from by unfold lg;rw [a,r,L]);have E:=wV i H;have d:=Rq W g i;have t:=O (Ro W g i);have u:=O G;have xL:=O r;have tV:=O (show x.1.kind=kd from a.symm);have Z:=O V;have HX:=O X;have C:=O K;have HM:=O L;have HR:=O R;have I:=P.o;clear H r J V X K L G R a;have z1:((kd:Int) == 1)=false:=by simp;omega
 have z2:((kd:Int) == 2)=false:=by simp;omega
 have z3:((kd:Int) == 3)=false:=by simp;omega
 have z4:((kd:Int) == 4)=false:=by simp;omega
 have z5:((kd:Int) == 5)=false:=by simp;omega
 have z19:((kd:Int) == 19)=false:=by simp;omega
 have z20:((kd:Int) == 20)=false:=by simp;omega
 go_in
 go_upto_region 1 with (fail)
 generalize (W.alloc (.cells #[.pointer (some ⟨g,0,none⟩)] 58)).alloc (.cells #[.int .i64 (i:Nat)] 3)=w0 at E d t ⊢
 have c0:w0.cell? ⟨g,0,none⟩=some (.slice (some ⟨b,o,none⟩) n c):=E.o.blk.cell 0;obtain⟨d2,d3⟩:=kM E;have M:=O d;have ug:g < w0.heap.size:=by omega
 have ub:b < w0.heap.size:=by omega
 have uW:W.heap.size < w0.heap.size:=by omega
 have zh:W.heap.size+1 < w0.heap.size:=by omega
 clear d;have k0:w0.cell? ⟨b,o+i * 5,none⟩=some (.int .u8 (kd:Nat)):=by have h:=(u.o.below t.o).c0 i x C.o.hx;rw [tV.o] at h;exact h
 have k1:w0.cell? ⟨b,o+i * 5+1,none⟩=some (.string (aH x.1.text)):=(u.o.below t.o).c1 i x C.o.hx;have k2:w0.cell? ⟨b,o+i * 5+2,none⟩=some (.int .i64 x.1.n):=(u.o.below t.o).c2 i x C.o.hx;have k4:w0.cell? ⟨b,o+i * 5+4,none⟩=some (.int .i64 x.1.at_):=(u.o.below t.o).c4 i x C.o.hx;have k3:w0.cell? ⟨b,o+i * 5+3,none⟩=some (.slice F m kc):=by rw [HM.o,← xL.o];exact (u.o.below t.o).c3 i x C.o.hx
 go_region
 have v:=Rp i #[.int .u8 (kd:Nat),.string (aH x.1.text),.int .i64 x.1.n,.slice F m kc,.int .i64 x.1.at_] M.o E;rw [M.o]
 generalize (w0.alloc (.cells #[.int .u8 (kd:Nat),.string (aH x.1.text),.int .i64 x.1.n,.slice F m kc,.int .i64 x.1.at_] 50)).drew=jy at v ⊢
 clear I c0 k0 k1 k2 k3 k4 d2 d3 E uW zh ug ub M t u P y0 y1;obtain⟨c2,c3,D,T,U⟩:=dJ v;have jJ:_=_:=(v.o.kp _ (List.mem_cons_self ..)).1.cell 3;have kN:_=_:=(v.o.kp _ (List.mem_cons_self ..)).1.cell 4;simp only at jJ kN
 have Q:=O (HR.o _ _ _ _ _ _ (Gn _ _ _ _ _) (Kc _ _ _ _ _) v Z.o);rw [Y.o] at Q
 go_wp2_with fail;refine (Q.o).mono ?_;rintro e w1⟨wP,rfl,N⟩;clear c2 c3 D T U v;obtain⟨c2,c3,D,T,U⟩:=dJ N;go_wp2_with fail;go_end0
 exact⟨_,rfl,O (by have h:=N.o.xe;exact h)⟩
end
end
set_option linter.all false
section
open Go.RowKit Mist
attribute [local go_sem] ah aM aV au ak
section
variable {S:Sz} {B g n c f i j q b2 b3 h:Nat} {cs:Array Value} {w W:World} {A Bi:Option Addr} {nv iv pv:Value} {ps l:List Pz} {xs:List NV} {its:List Int} {x y:NV}
theorem Uh (w:World)(k:Nat)(os:Array Obj):Below w.heap.size w (Go.Sort.grow (w.drewN k) os) :=
 ⟨rfl,rfl,rfl,by show w.heap.size≤(w.heap ++ os).size;rw [Array.size_append];omega,fun b a=>Array.getElem?_append_left a⟩
theorem wL {w w0 a:World}(m:Pow w)(h0:Below w.heap.size w w0)(o:w.heap.size≤w0.heap.size){N:Int}(r:-1000000≤N)(t:N≤1000000)(b:Below w0.heap.size w0 a) :
  Calls Tryz.prog 93 #[.int .i64 N] a fun e d=>e=.returned (.string (aH (Go.Lib.itoa N)))∧Below w0.heap.size w0 d:=by
 refine (Tryz.strconv_Itoa N (by omega) (by omega) a (m.on (h0.trans (b.mono o))).here).mono ?_;rintro e u⟨rfl,k,os,rfl⟩;exact⟨rfl,b.trans ((Uh a k os).mono b.size)⟩
def boolT (b:Bool):Bs:=if b then [116,114,117,101] else [102,97,108,115,101]
theorem abV (b:Bool)(W:World):Calls Tryz.prog 173 #[.bool b] W fun e a=>e=.returned (.string (aH (boolT b)))∧a=W:=by
 cases b <;>
 ·go_in
  go_wp2_with fail;go_ret;exact⟨rfl,rfl⟩
theorem aeE (b:Bool)(W:World):Calls Tryz.prog 141 #[.bool b] W fun e a=>e=.returned (.string (aH (boolT b)))∧a=W:=by
 go_in
 go_wp2_with fail;refine (abV b W).mono ?_;rintro e d⟨rfl,rfl⟩;go_wp2_with fail;go_ret;exact⟨rfl,rfl⟩
theorem YU (H:Hid (PZ S B g w W (.slice A n c) iv pv ps))(X:CX w B A Bi n xs its)(K:KX w B g A n c iv xs its f i x)(Y:x.1.kind=1)(hf:0 < f)(n0:-1000000≤x.1.n)(n1:x.1.n≤1000000)
  (Z:ps.length+([tz (Go.Lib.itoa x.1.n) (i:Int)]).length≤1000000) :
  Calls Tryz.prog 101 #[.pointer (some ⟨g,0,none⟩),.int .i64 i] W (l7 S B g w (.slice A n c) iv (iG ps ([tz (Go.Lib.itoa x.1.n) (i:Int)]))):=by
 have hi:i < n:=by rw [← X.len];exact (akV.1 K.hx).1
 obtain⟨b,o,hA,M⟩:=(X.at_ H.o).nodes (by have:=X.len;omega);have V:=O M.lt;obtain⟨D,kc,k,hkl,P⟩:=X.kids H.o K.hx;obtain⟨m,Q⟩:∃ m,m=x.1.kids.length:=⟨_,rfl⟩;subst hA;have y0:(0:Int)≤(i:Int):=by omega
 have y1:(i:Int) < (n:Int):=by omega
 have hg:=H.o.blk.lt;have EB:=O (show lg x=#[.int .u8 1,.string (aH x.1.text),.int .i64 x.1.n,.slice D m kc,.int .i64 x.1.at_] from by unfold lg;rw [Y,k,Q];rfl);have E:=wV i H;have d:=Rq W g i;have r:=O (Ro W g i);have t:=O M;have xL:=O k;have tV:=O (show x.1.kind=1 from Y);have HL:=O Z;have L:=O X;have v:=O K;have HM:=O Q;have N:=V.o;clear H k P Z X K Q M;have N0:=O n0;have N1:=O n1;clear n0 n1;go_in
 go_upto_region 1 with (fail)
 generalize (W.alloc (.cells #[.pointer (some ⟨g,0,none⟩)] 58)).alloc (.cells #[.int .i64 (i:Nat)] 3)=w0 at E d r ⊢
 have c0:w0.cell? ⟨g,0,none⟩=some (.slice (some ⟨b,o,none⟩) n c):=E.o.blk.cell 0;obtain⟨d2,d3⟩:=kM E;have R:=O d;have ug:g < w0.heap.size:=by omega
 have ub:b < w0.heap.size:=by omega
 have uW:W.heap.size < w0.heap.size:=by omega
 have zh:W.heap.size+1 < w0.heap.size:=by omega
 clear d;have k0:w0.cell? ⟨b,o+i * 5,none⟩=some (.int .u8 1):=by have h:=(t.o.below r.o).c0 i x v.o.hx;rw [tV.o] at h;exact h
 have k1:w0.cell? ⟨b,o+i * 5+1,none⟩=some (.string (aH x.1.text)):=(t.o.below r.o).c1 i x v.o.hx;have k2:w0.cell? ⟨b,o+i * 5+2,none⟩=some (.int .i64 x.1.n):=(t.o.below r.o).c2 i x v.o.hx;have k4:w0.cell? ⟨b,o+i * 5+4,none⟩=some (.int .i64 x.1.at_):=(t.o.below r.o).c4 i x v.o.hx;have k3:w0.cell? ⟨b,o+i * 5+3,none⟩=some (.slice D m kc):=by rw [HM.o,← xL.o];exact (t.o.below r.o).c3 i x v.o.hx
 go_region
 have C:=Rp i #[.int .u8 1,.string (aH x.1.text),.int .i64 x.1.n,.slice D m kc,.int .i64 x.1.at_] R.o E;rw [R.o]
 generalize (w0.alloc (.cells #[.int .u8 1,.string (aH x.1.text),.int .i64 x.1.n,.slice D m kc,.int .i64 x.1.at_] 50)).drew=jy at C ⊢
 clear N c0 k0 k1 k2 k3 k4 d2 d3 E uW zh ug ub R r t V y0 y1;obtain⟨c2,c3,a,F,G⟩:=dJ C;have J:=O fun (W2:World) (I:Below jy.heap.size jy W2)=>wL L.o.pow (C.o.Ki.mono L.o.b) (Nat.le_trans L.o.b C.o.lw) N0.o N1.o I
 go_upto_region 6 with (fail)
 go_region_held3 (fun T=>T.cell? ⟨W.heap.size,0,none⟩=some (.pointer (some ⟨g,0,none⟩))∧T.cell? ⟨W.heap.size+1,0,none⟩=some (.int .i64 (i:Nat))∧T.cell? ⟨W.heap.size+2,2,none⟩=some (.int .i64 x.1.n)) (first | go_keep|(go_split_ands;refine⟨?_,?_,?_⟩ <;> assumption))
  ((first
    | (go_at_call 93
       refine (J.o _ (by (repeat (first|(with_reducible exact Below.refl _ _)|(with_reducible refine Below.drew ?_)));done)).mono ?_;rintro e wA⟨rfl,I⟩;have u:=O (C.o.below I);clear c2 c3 a F G I;obtain⟨c2,c3,a,F,G⟩:=dJ u)
    | (go_at_call 52
       refine (zC (S:=xS W.heap.size g i #[.int .u8 1,.string (aH x.1.text),.int .i64 x.1.n,.slice D m kc,.int .i64 x.1.at_] S) (by first | exact u | exact O u.o.drew | exact O u.o.drew.drew | exact O (u.o.drewN _)) (Go.Lib.itoa x.1.n) (i:Int) (by have:=HL.o;simp [aj] at this;omega)).mono ?_;rintro e w1⟨wP,rfl,U⟩;clear c2 c3 a F G;obtain⟨c2,c3,a,F,G⟩:=dJ U)))
 all_goals
  go_wp2_with fail;go_end0
  exact⟨_,rfl,O U.o.xe⟩
theorem Uc (H:Hid (PZ S B g w W (.slice A n c) iv pv ps))(X:CX w B A Bi n xs its)(K:KX w B g A n c iv xs its f i x)(M:x.1.kind=2)(hf:0 < f)
  (I:ps.length+(cZ ⟨aF xs,its⟩ (aQ ⟨aF xs,its⟩ f) i).length≤1000000) :
  Calls Tryz.prog 101 #[.pointer (some ⟨g,0,none⟩),.int .i64 i] W (l7 S B g w (.slice A n c) iv (iG ps (cZ ⟨aF xs,its⟩ (aQ ⟨aF xs,its⟩ f) i))):=by
 have en:=Jz (T:=⟨aF xs,its⟩) (B:=aQ ⟨aF xs,its⟩ f) (i:=i) (by rw [bI its K.hx];exact M)
 try rw [bI its K.hx] at en
 rw [en] at I ⊢
 clear en;obtain⟨G,a⟩:∃ b,b=(x.1.n == 1):=⟨_,rfl⟩;have E:(if x.1.n=1 then ([116,114,117,101]:Bs) else [102,97,108,115,101])=boolT G:=by rw [a];unfold boolT;by_cases e:x.1.n=1 <;> simp [e]
 rw [E] at I ⊢
 have zb:(x.1.n == 1)=G:=a.symm;clear a E;have hi:i < n:=by rw [← X.len];exact (akV.1 K.hx).1
 obtain⟨b,o,hA,J⟩:=(X.at_ H.o).nodes (by have:=X.len;omega);have V:=O J.lt;obtain⟨C,kc,k,hkl,N⟩:=X.kids H.o K.hx;obtain⟨m,P⟩:∃ m,m=x.1.kids.length:=⟨_,rfl⟩;subst hA;have y0:(0:Int)≤(i:Int):=by omega
 have y1:(i:Int) < (n:Int):=by omega
 have hg:=H.o.blk.lt;have EB:=O (show lg x=#[.int .u8 2,.string (aH x.1.text),.int .i64 x.1.n,.slice C m kc,.int .i64 x.1.at_] from by unfold lg;rw [M,k,P];rfl);have F:=wV i H;have d:=Rq W g i;have r:=O (Ro W g i);have t:=O J;have xL:=O k;have tV:=O (show x.1.kind=2 from M);have HL:=O I;have HX:=O X;have v:=O K;have HM:=O P;have L:=V.o;clear H k N I X K P J;go_in
 go_upto_region 1 with (fail)
 generalize (W.alloc (.cells #[.pointer (some ⟨g,0,none⟩)] 58)).alloc (.cells #[.int .i64 (i:Nat)] 3)=w0 at F d r ⊢
 have c0:w0.cell? ⟨g,0,none⟩=some (.slice (some ⟨b,o,none⟩) n c):=F.o.blk.cell 0;obtain⟨d2,d3⟩:=kM F;have Q:=O d;have ug:g < w0.heap.size:=by omega
 have ub:b < w0.heap.size:=by omega
 have uW:W.heap.size < w0.heap.size:=by omega
 have zh:W.heap.size+1 < w0.heap.size:=by omega
 clear d;have k0:w0.cell? ⟨b,o+i * 5,none⟩=some (.int .u8 2):=by have h:=(t.o.below r.o).c0 i x v.o.hx;rw [tV.o] at h;exact h
 have k1:w0.cell? ⟨b,o+i * 5+1,none⟩=some (.string (aH x.1.text)):=(t.o.below r.o).c1 i x v.o.hx;have k2:w0.cell? ⟨b,o+i * 5+2,none⟩=some (.int .i64 x.1.n):=(t.o.below r.o).c2 i x v.o.hx;have k4:w0.cell? ⟨b,o+i * 5+4,none⟩=some (.int .i64 x.1.at_):=(t.o.below r.o).c4 i x v.o.hx;have k3:w0.cell? ⟨b,o+i * 5+3,none⟩=some (.slice C m kc):=by rw [HM.o,← xL.o];exact (t.o.below r.o).c3 i x v.o.hx
 go_region
 have u:=Rp i #[.int .u8 2,.string (aH x.1.text),.int .i64 x.1.n,.slice C m kc,.int .i64 x.1.at_] Q.o F;rw [Q.o]
 generalize (w0.alloc (.cells #[.int .u8 2,.string (aH x.1.text),.int .i64 x.1.n,.slice C m kc,.int .i64 x.1.at_] 50)).drew=jy at u ⊢
 clear L c0 k0 k1 k2 k3 k4 d2 d3 F uW zh ug ub Q r t V y0 y1;obtain⟨c2,c3,D,Y,Z⟩:=dJ u;go_upto_region 8 with (fail)
 go_region_held3 (fun R=>R.cell? ⟨W.heap.size,0,none⟩=some (.pointer (some ⟨g,0,none⟩))∧R.cell? ⟨W.heap.size+1,0,none⟩=some (.int .i64 (i:Nat))∧R.cell? ⟨W.heap.size+2,2,none⟩=some (.int .i64 x.1.n)) (first | go_keep|(go_split_ands;refine⟨?_,?_,?_⟩ <;> assumption))
  ((first
    | (go_at_call 141
       refine (aeE G _).mono ?_;rintro e wA⟨rfl,rfl⟩)
    | (go_at_call 52
       refine (zC (S:=xS W.heap.size g i #[.int .u8 2,.string (aH x.1.text),.int .i64 x.1.n,.slice C m kc,.int .i64 x.1.at_] S) (by first | exact u | exact O u.o.drew | exact O u.o.drew.drew | exact O (u.o.drewN _)) (boolT G) (i:Int) (by have:=HL.o;simp [aj] at this;omega)).mono ?_;rintro e w1⟨wP,rfl,U⟩;clear c2 c3 D Y Z;obtain⟨c2,c3,D,Y,Z⟩:=dJ U)))
 all_goals
  go_wp2_with fail;go_end0
  exact⟨_,rfl,O U.o.xe⟩
theorem YT (H:Hid (PZ S B g w W (.slice A n c) iv pv ps))(X:CX w B A Bi n xs its)(K:KX w B g A n c iv xs its f i x)(U:x.1.kind=5)(hf:0 < f)(hm1:x.1.kids.length=1)(E:∀ j,j < x.1.kids.length→KE w B g A n c iv xs its f x j)
  (Y:ps.length+(cZ ⟨aF xs,its⟩ (aQ ⟨aF xs,its⟩ f) i).length≤1000000) :
  Calls Tryz.prog 101 #[.pointer (some ⟨g,0,none⟩),.int .i64 i] W (l7 S B g w (.slice A n c) iv (iG ps (cZ ⟨aF xs,its⟩ (aQ ⟨aF xs,its⟩ f) i))):=by
 have en:=JE (T:=⟨aF xs,its⟩) (B:=aQ ⟨aF xs,its⟩ f) (i:=i) (by rw [bI its K.hx];exact U)
 try rw [bI its K.hx] at en
 rw [en] at Y ⊢
 clear en;have hi:i < n:=by rw [← X.len];exact (akV.1 K.hx).1
 obtain⟨b,o,hA,Q⟩:=(X.at_ H.o).nodes (by have:=X.len;omega);have HB:=O Q.lt;obtain⟨G,kc,k,hkl,V⟩:=X.kids H.o K.hx;obtain⟨m,hm⟩:∃ m,m=x.1.kids.length:=⟨_,rfl⟩;subst hA;have y0:(0:Int)≤(i:Int):=by omega
 have y1:(i:Int) < (n:Int):=by omega
 have hg:=H.o.blk.lt;have EB:=O (show lg x=#[.int .u8 5,.string (aH x.1.text),.int .i64 x.1.n,.slice G m kc,.int .i64 x.1.at_] from by unfold lg;rw [U,k,hm];rfl);have I:=wV i H;have d:=Rq W g i;have r:=O (Ro W g i);have u:=O Q;have xL:=O k;have tV:=O (show x.1.kind=5 from U);have HL:=O Y;have HX:=O X;have t:=O K;have HM:=O hm;have HE:=O E;have R:=HB.o;clear H k V Y X K hm Q E;go_in
 go_upto_region 1 with (fail)
 generalize (W.alloc (.cells #[.pointer (some ⟨g,0,none⟩)] 58)).alloc (.cells #[.int .i64 (i:Nat)] 3)=w0 at I d r ⊢
 have c0:w0.cell? ⟨g,0,none⟩=some (.slice (some ⟨b,o,none⟩) n c):=I.o.blk.cell 0;obtain⟨d2,d3⟩:=kM I;have lM:=O d;have ug:g < w0.heap.size:=by omega
 have ub:b < w0.heap.size:=by omega
 have uW:W.heap.size < w0.heap.size:=by omega
 have zh:W.heap.size+1 < w0.heap.size:=by omega
 clear d;have k0:w0.cell? ⟨b,o+i * 5,none⟩=some (.int .u8 5):=by have h:=(u.o.below r.o).c0 i x t.o.hx;rw [tV.o] at h;exact h
 have k1:w0.cell? ⟨b,o+i * 5+1,none⟩=some (.string (aH x.1.text)):=(u.o.below r.o).c1 i x t.o.hx;have k2:w0.cell? ⟨b,o+i * 5+2,none⟩=some (.int .i64 x.1.n):=(u.o.below r.o).c2 i x t.o.hx;have k4:w0.cell? ⟨b,o+i * 5+4,none⟩=some (.int .i64 x.1.at_):=(u.o.below r.o).c4 i x t.o.hx;have k3:w0.cell? ⟨b,o+i * 5+3,none⟩=some (.slice G m kc):=by rw [HM.o,← xL.o];exact (u.o.below r.o).c3 i x t.o.hx
 go_region
 have N:=Rp i #[.int .u8 5,.string (aH x.1.text),.int .i64 x.1.n,.slice G m kc,.int .i64 x.1.at_] lM.o I;rw [lM.o]
 generalize (w0.alloc (.cells #[.int .u8 5,.string (aH x.1.text),.int .i64 x.1.n,.slice G m kc,.int .i64 x.1.at_] 50)).drew=jy at N ⊢
 clear R c0 k0 k1 k2 k3 k4 d2 d3 I uW zh ug ub lM r u HB y0 y1;obtain⟨c2,c3,a,v,C⟩:=dJ N;have HW:=O fun (W2:World) (J:Below jy.heap.size jy W2)=>Td J
 go_upto_region 18 with (fail)
 go_region_held3 (fun w'=>w'.cell? ⟨W.heap.size,0,none⟩=some (.pointer (some ⟨g,0,none⟩))∧w'.cell? ⟨W.heap.size+1,0,none⟩=some (.int .i64 (i:Nat))∧w'.cell? ⟨W.heap.size+2,0,none⟩=some (.int .u8 5)) (first | go_keep|(go_split_ands;refine⟨?_,?_,?_⟩ <;> assumption))
  ((first
    | (go_at_call 142
       refine (HW.o _ (by (repeat (first|(with_reducible exact Below.refl _ _)|(with_reducible refine Below.drew ?_)));done)).mono ?_;rintro e D⟨L,cc,rfl,Za,J⟩;have F:=O (N.o.below J);have Z:(Instr.lookup 103 (.map (some L)) (.int .u8 5) false).run Tryz.prog D=.ok (.string (aH [110,111,116])) D:=yK D L cc Za 5;have P:(Instr.lookup 103 (.map (some L)) (.int .u8 5) false).run Tryz.prog D.drew=.ok (.string (aH [110,111,116])) D.drew:=yK D.drew L cc Za 5;clear c2 c3 a v C J;obtain⟨c2,c3,a,v,C⟩:=dJ F)
    | (go_at_call 52
       refine (zC (S:=xS W.heap.size g i #[.int .u8 5,.string (aH x.1.text),.int .i64 x.1.n,.slice G m kc,.int .i64 x.1.at_] S) (by first | exact F | exact O F.o.drew | exact O F.o.drew.drew | exact O (F.o.drewN _)) ([110,111,116]) (i:Int) (by have:=HL.o;simp [aj] at this;omega)).mono ?_;rintro e w1⟨wP,rfl,M⟩;clear Z P c2 c3 a v C;obtain⟨c2,c3,a,v,C⟩:=dJ M)))
 all_goals
  go_wp2_with fail;refine (Sb (R_ M HX.o t.o (Gn _ _ _ _ _) (Kc _ _ _ _ _) (j:=0) (by omega) (HE.o 0 (by omega)) (by have:=HL.o;rw [eU];simp [aj] at this ⊢;omega)) (by simp)).mono ?_;rintro e w2⟨mZ,rfl,H2⟩;clear c2 c3 a v C M;obtain⟨c2,c3,a,v,C⟩:=dJ H2;go_wp2_with fail;go_end0
  exact⟨_,rfl,O (by have h:=H2.o.xe;simpa [List.append_assoc] using h)⟩
end
end
set_option linter.all false
end Go.Proofs.YtflnfhhgamldhaaGreatDoor
namespace Mist
theorem afg (Q:List Pz){k:List Pz}(h:k ≠ []):∃ p,(iG Q k)[Q.length]? = some p∧p.text=(k.headD default).text:=by
 cases k with
 | nil=>exact absurd rfl h
 | cons x r=>exact⟨⟨x.text,decide (0 < Q.length),x.node⟩,by unfold iG;rw [List.getElem?_append_right (ak0 _),Nat.sub_self];rfl,rfl⟩
def PY (i:Int)(k0 k1 k2:List Pz):Nat→List Pz
 | 0=>[]
 | 1=>[tz [105,102] i] ++ dI true k0
 | 2=>[tz [105,102] i] ++ dI true k0 ++ [lz [116,104,101,110] (-1)] ++ dI true k1
 | _=>[tz [105,102] i] ++ dI true k0 ++ [lz [116,104,101,110] (-1)] ++ dI true k1 ++ [lz [101,108,115,101] (-1)] ++ dI true k2
end Mist
namespace Go.Proofs.YtflnfhhgamldhaaGreatDoor
section
open Go.RowKit Mist
attribute [local go_sem] ah aM aV au ak
section
variable {S:Sz} {B g n c f i j q b2 b3 h:Nat} {cs:Array Value} {w W:World} {A Bi:Option Addr} {nv iv pv:Value} {ps l:List Pz} {xs:List NV} {its:List Int} {x y:NV}
theorem YS (H:Hid (PZ S B g w W (.slice A n c) iv pv ps))(X:CX w B A Bi n xs its)(K:KX w B g A n c iv xs its f i x)(hk:x.1.kind=4)(hf:0 < f)(hm1:x.1.kids.length=1)(E:∀ j,j < x.1.kids.length→KE w B g A n c iv xs its f x j)
  (hl:ps.length+(cZ ⟨aF xs,its⟩ (aQ ⟨aF xs,its⟩ f) i).length≤1000000) :
  Calls Tryz.prog 101 #[.pointer (some ⟨g,0,none⟩),.int .i64 i] W (l7 S B g w (.slice A n c) iv (iG ps (cZ ⟨aF xs,its⟩ (aQ ⟨aF xs,its⟩ f) i))):=by
 have en:=JD (T:=⟨aF xs,its⟩) (B:=aQ ⟨aF xs,its⟩ f) (i:=i) (by rw [bI its K.hx];exact hk)
 try rw [bI its K.hx] at en
 rw [en] at hl ⊢
 clear en;have hi:i < n:=by rw [← X.len];exact (akV.1 K.hx).1
 obtain⟨b,o,hA,J⟩:=(X.at_ H.o).nodes (by have:=X.len;omega);have HB:=O J.lt;obtain⟨Ka,kc,D,hkl,hki⟩:=X.kids H.o K.hx;obtain⟨m,hm⟩:∃ m,m=x.1.kids.length:=⟨_,rfl⟩;subst hA;have y0:(0:Int)≤(i:Int):=by omega
 have y1:(i:Int) < (n:Int):=by omega
 have hg:=H.o.blk.lt;have EB:=O (show lg x=#[.int .u8 4,.string (aH x.1.text),.int .i64 x.1.n,.slice Ka m kc,.int .i64 x.1.at_] from by unfold lg;rw [hk,D,hm];rfl);have jR:=wV i H;have C:=Rq W g i;have F:=O (Ro W g i);have I:=O J;have xL:=O D;have tV:=O (show x.1.kind=4 from hk);have K1:=O (K.ne hf 0 (.inr rfl));have HL:=O hl;have HX:=O X;have G:=O K;have HM:=O hm;have HE:=O E;have hbw:=HB.o;clear H D hki hl X K hm J E;go_in
 go_upto_region 1 with (fail)
 generalize (W.alloc (.cells #[.pointer (some ⟨g,0,none⟩)] 58)).alloc (.cells #[.int .i64 (i:Nat)] 3)=w0 at jR C F ⊢
 have c0:w0.cell? ⟨g,0,none⟩=some (.slice (some ⟨b,o,none⟩) n c):=jR.o.blk.cell 0;obtain⟨Q,d3⟩:=kM jR;have lM:=O C;have ug:g < w0.heap.size:=by omega
 have ub:b < w0.heap.size:=by omega
 have uW:W.heap.size < w0.heap.size:=by omega
 have zh:W.heap.size+1 < w0.heap.size:=by omega
 clear C;have k0:w0.cell? ⟨b,o+i * 5,none⟩=some (.int .u8 4):=by have h:=(I.o.below F.o).c0 i x G.o.hx;rw [tV.o] at h;exact h
 have k1:w0.cell? ⟨b,o+i * 5+1,none⟩=some (.string (aH x.1.text)):=(I.o.below F.o).c1 i x G.o.hx;have k2:w0.cell? ⟨b,o+i * 5+2,none⟩=some (.int .i64 x.1.n):=(I.o.below F.o).c2 i x G.o.hx;have k4:w0.cell? ⟨b,o+i * 5+4,none⟩=some (.int .i64 x.1.at_):=(I.o.below F.o).c4 i x G.o.hx;have k3:w0.cell? ⟨b,o+i * 5+3,none⟩=some (.slice Ka m kc):=by rw [HM.o,← xL.o];exact (I.o.below F.o).c3 i x G.o.hx
 go_region
 have HS:=Rp i #[.int .u8 4,.string (aH x.1.text),.int .i64 x.1.n,.slice Ka m kc,.int .i64 x.1.at_] lM.o jR;rw [lM.o]
 generalize (w0.alloc (.cells #[.int .u8 4,.string (aH x.1.text),.int .i64 x.1.n,.slice Ka m kc,.int .i64 x.1.at_] 50)).drew=jy at HS ⊢
 clear hbw c0 k0 k1 k2 k3 k4 Q d3 jR uW zh ug ub lM F I HB y0 y1;obtain⟨c2,c3,a,R,U⟩:=dJ HS;obtain⟨M,hM⟩:∃ M,M=(iG ps [tz [45] (i:Int)]).length:=⟨_,rfl⟩;have k:=O hM;have hMl:M≤1000000:=by have:=HL.o;rw [hM,eU];simp [aj] at this ⊢;omega
 clear hM;go_wp2_with fail;refine (zC HS [45] (i:Int) (by have:=HL.o;simp [aj] at this;omega)).mono ?_;rintro e w1⟨wP,rfl,L⟩;clear c2 c3 a R U HS;obtain⟨c2,c3,a,R,U⟩:=dJ L;obtain⟨A1,cc1,V⟩:=d_ L.o.own;have Q:w1.cell? ⟨g,2,none⟩=some (.slice A1 M cc1):=by rw [k.o,← V];exact L.o.blk.cell 2
 clear V;go_wp2_with fail;clear Q;refine (R_ L HX.o G.o (Gn _ _ _ _ _) (Kc _ _ _ _ _) (j:=0) (by omega) (HE.o 0 (by omega)) (by have:=HL.o;rw [eU];simp [aj] at this ⊢;omega)).mono ?_;rintro e w2⟨mZ,rfl,P⟩;clear c2 c3 a R U L;obtain⟨c2,c3,a,R,U⟩:=dJ P;obtain⟨pp,Y,r⟩:=afg (iG ps [tz [45] (i:Int)]) K1.o;obtain⟨gp,cap,v,u,Z⟩:=P.o.text Y;rw [← k.o] at u Z
 obtain⟨N,J⟩:∃ N,N=(iG (iG ps [tz [45] (i:Int)]) (eO ⟨aF xs,its⟩ (aQ ⟨aF xs,its⟩ f) i 0)).length:=⟨_,rfl⟩;rw [← J] at v Z
 have Q:w2.cell? ⟨g,2,none⟩=some (.slice (some ⟨gp,0,none⟩) N cap):=by rw [← v];exact P.o.blk.cell 2
 have y0:(0:Int)≤(M:Int):=by omega
 have y1:(M:Int) < (N:Int):=by omega
 obtain⟨tt,htt⟩:∃ t,t=pp.text:=⟨_,rfl⟩;rw [← htt] at u r
 have HT:=O r;clear Y r v J htt;by_cases d:tt=[45]
 ·have z1:(tt == [45])=true:=by rw [d];rfl
  have z2:(tt != [45])=false:=by rw [d];rfl
  have HD:=O (show decide (((eO ⟨aF xs,its⟩ (aQ ⟨aF xs,its⟩ f) i 0).headD default).text=[45])=true from by rw [← HT.o,d];rfl);clear d;go_wp2_with fail;go_end0
  exact⟨_,rfl,O (by have h:=P.o.xe;rw [sD ps _ _ (by simp)] at h;rw [HD.o];exact h)⟩
 ·have z1:(tt == [45])=false:=by simpa using d
  have z2:(tt != [45])=true:=by simpa using d
  have HD:=O (show decide (((eO ⟨aF xs,its⟩ (aQ ⟨aF xs,its⟩ f) i 0).headD default).text=[45])=false from by rw [← HT.o];simpa using d);clear d;go_wp2_with fail;refine (cl1 P M hMl).mono ?_;rintro e w3⟨tX,rfl,H3⟩;clear c2 c3 a R U Q u;go_wp2_with fail;go_end0
  exact⟨_,rfl,O (by have h:=H3.o.xe;rw [k.o,vv,← vC ps (by simp)] at h;rw [HD.o];exact h)⟩
theorem abZ (H:Hid (PZ S B g w W (.slice A n c) iv pv ps))(X:CX w B A Bi n xs its)(K:KX w B g A n c iv xs its f i x)(hk:x.1.kind=19)(hf:0 < f)(hm1:x.1.kids.length=3)(E:∀ j,j < x.1.kids.length→KE w B g A n c iv xs its f x j)
  (hl:ps.length+(cZ ⟨aF xs,its⟩ (aQ ⟨aF xs,its⟩ f) i).length≤1000000) :
  Calls Tryz.prog 101 #[.pointer (some ⟨g,0,none⟩),.int .i64 i] W (l7 S B g w (.slice A n c) iv (iG ps (cZ ⟨aF xs,its⟩ (aQ ⟨aF xs,its⟩ f) i))):=by
 have en:=Ej (T:=⟨aF xs,its⟩) (B:=aQ ⟨aF xs,its⟩ f) (i:=i) (by rw [bI its K.hx];exact hk)
 try rw [bI its K.hx] at en
 rw [en] at hl ⊢
 clear en;have hi:i < n:=by rw [← X.len];exact (akV.1 K.hx).1
 obtain⟨b,o,hA,hN⟩:=(X.at_ H.o).nodes (by have:=X.len;omega);have HB:=O hN.lt;obtain⟨N,kc,F,hkl,hki⟩:=X.kids H.o K.hx;obtain⟨m,hm⟩:∃ m,m=x.1.kids.length:=⟨_,rfl⟩;subst hA;have y0:(0:Int)≤(i:Int):=by omega
 have y1:(i:Int) < (n:Int):=by omega
 have hg:=H.o.blk.lt;have EB:=O (show lg x=#[.int .u8 19,.string (aH x.1.text),.int .i64 x.1.n,.slice N m kc,.int .i64 x.1.at_] from by unfold lg;rw [hk,F,hm];rfl);have R:=wV i H;have D:=Rq W g i;have I:=O (Ro W g i);have L:=O hN;have xL:=O F;have tV:=O (show x.1.kind=19 from hk);have J:=O hl;have HX:=O X;have u:=O K;have HM:=O hm;have V:=O E;have hbw:=HB.o;clear H F hki hl X K hm hN E;go_in
 go_upto_region 1 with (fail)
 generalize (W.alloc (.cells #[.pointer (some ⟨g,0,none⟩)] 58)).alloc (.cells #[.int .i64 (i:Nat)] 3)=w0 at R D I ⊢
 have c0:w0.cell? ⟨g,0,none⟩=some (.slice (some ⟨b,o,none⟩) n c):=R.o.blk.cell 0;obtain⟨d2,d3⟩:=kM R;have lM:=O D;have ug:g < w0.heap.size:=by omega
 have ub:b < w0.heap.size:=by omega
 have uW:W.heap.size < w0.heap.size:=by omega
 have zh:W.heap.size+1 < w0.heap.size:=by omega
 clear D;have k0:w0.cell? ⟨b,o+i * 5,none⟩=some (.int .u8 19):=by have h:=(L.o.below I.o).c0 i x u.o.hx;rw [tV.o] at h;exact h
 have k1:w0.cell? ⟨b,o+i * 5+1,none⟩=some (.string (aH x.1.text)):=(L.o.below I.o).c1 i x u.o.hx;have k2:w0.cell? ⟨b,o+i * 5+2,none⟩=some (.int .i64 x.1.n):=(L.o.below I.o).c2 i x u.o.hx;have k4:w0.cell? ⟨b,o+i * 5+4,none⟩=some (.int .i64 x.1.at_):=(L.o.below I.o).c4 i x u.o.hx;have k3:w0.cell? ⟨b,o+i * 5+3,none⟩=some (.slice N m kc):=by rw [HM.o,← xL.o];exact (L.o.below I.o).c3 i x u.o.hx
 go_region
 have Z:=Rp i #[.int .u8 19,.string (aH x.1.text),.int .i64 x.1.n,.slice N m kc,.int .i64 x.1.at_] lM.o R;rw [lM.o]
 generalize (w0.alloc (.cells #[.int .u8 19,.string (aH x.1.text),.int .i64 x.1.n,.slice N m kc,.int .i64 x.1.at_] 50)).drew=jy at Z ⊢
 clear hbw c0 k0 k1 k2 k3 k4 d2 d3 R uW zh ug ub lM I L HB y0 y1;obtain⟨c2,c3,a,k,r⟩:=dJ Z;obtain⟨hh,C⟩:∃ h,h=jy.heap.size:=⟨_,rfl⟩;have wZ:=O (Z.o.box (T:=9) (cs:=#[.string (aH [105,102]),.string (aH [116,104,101,110]),.string (aH [101,108,115,101])]) (by decide));rw [← C] at wZ
 have Y:=O C.symm;clear C;have Q:=O (show iG ps (PY (i:Int) (eO ⟨aF xs,its⟩ (aQ ⟨aF xs,its⟩ f) i 0) (eO ⟨aF xs,its⟩ (aQ ⟨aF xs,its⟩ f) i 1) (eO ⟨aF xs,its⟩ (aQ ⟨aF xs,its⟩ f) i 2) 0)=ps from JG ps);go_wp2_with fail;rw [Y.o];go_loopw [7,8,9,89] (fun _ _ _ G wr=>∃ (v:Nat) (pv':Value),v≤3∧G=.int .i64 v∧Hid (PZ ((hh,9,#[.string (aH [105,102]),.string (aH [116,104,101,110]),.string (aH [101,108,115,101])]) :: xS W.heap.size g i #[.int .u8 19,.string (aH x.1.text),.int .i64 x.1.n,.slice N m kc,.int .i64 x.1.at_] S) B g w wr (.slice (some ⟨b,o,none⟩) n c) iv pv' (iG ps (PY (i:Int) (eO ⟨aF xs,its⟩ (aQ ⟨aF xs,its⟩ f) i 0) (eO ⟨aF xs,its⟩ (aQ ⟨aF xs,its⟩ f) i 1) (eO ⟨aF xs,its⟩ (aQ ⟨aF xs,its⟩ f) i 2) v)))) (fun _ _ _ G _=>3 - (intOf G).toNat)
 case atStart=>exact⟨0,pv,by omega,rfl,by rw [Q.o];exact wZ⟩
 case round =>
  obtain⟨v,wP,hmm,rfl,t⟩:=hrel;clear c2 c3 a k r;obtain⟨c2,c3,a,k,r⟩:=dJ (O t.o.tl);rcases (by omega:v=0∨v=1∨v=2∨v=3) with rfl | rfl | rfl | rfl
  ·have P:=(t.o.kp _ (List.mem_cons_self ..)).1.cell 0;go_wp2_with fail;rw [Q.o] at t
   refine (zC t [105,102] (i:Int) (by have:=J.o;simp [aj] at this;omega)).mono ?_;rintro e w2⟨mZ,rfl,d⟩;clear c2 c3 a k r P;obtain⟨c2,c3,a,k,r⟩:=dJ (O d.o.tl);go_wp2_with fail;refine (Sb (l:=[tz [105,102] (i:Int)]) (R_ d HX.o u.o (List.mem_cons_of_mem _ (Gn _ _ _ _ _)) (List.mem_cons_of_mem _ (Kc _ _ _ _ _)) (j:=0) (by omega) (V.o 0 (by omega)) (by have:=J.o;rw [eU];simp [aj,PY] at this ⊢;omega)) (by simp)).mono ?_;rintro e w3⟨U,rfl,M⟩;clear c2 c3 a k r d;go_wp2_with fail;exact⟨⟨1,U,by omega,by go_num,O (by have h:=M.o;simpa [PY] using h)⟩,by simp [intOf]⟩
  ·have P:=(t.o.kp _ (List.mem_cons_self ..)).1.cell 1;go_wp2_with fail;refine (Gf t [116,104,101,110] (-1) (by simp [PY]) (by have:=J.o;simp [aj,PY] at this ⊢;omega)).mono ?_;rintro e w2⟨mZ,rfl,d⟩;clear c2 c3 a k r P;obtain⟨c2,c3,a,k,r⟩:=dJ (O d.o.tl);go_wp2_with fail;refine (Sb (l:=(PY (i:Int) (eO ⟨aF xs,its⟩ (aQ ⟨aF xs,its⟩ f) i 0) (eO ⟨aF xs,its⟩ (aQ ⟨aF xs,its⟩ f) i 1) (eO ⟨aF xs,its⟩ (aQ ⟨aF xs,its⟩ f) i 2) 1 ++ [lz [116,104,101,110] (-1)])) (R_ d HX.o u.o (List.mem_cons_of_mem _ (Gn _ _ _ _ _)) (List.mem_cons_of_mem _ (Kc _ _ _ _ _)) (j:=1) (by omega) (V.o 1 (by omega)) (by have:=J.o;rw [eU];simp [aj,PY] at this ⊢;omega)) (by simp)).mono ?_;rintro e w3⟨U,rfl,M⟩;clear c2 c3 a k r d;go_wp2_with fail;exact⟨⟨2,U,by omega,by go_num,O (by have h:=M.o;simpa [PY] using h)⟩,by simp [intOf]⟩
  ·have P:=(t.o.kp _ (List.mem_cons_self ..)).1.cell 2;go_wp2_with fail;refine (Gf t [101,108,115,101] (-1) (by simp [PY]) (by have:=J.o;simp [aj,PY] at this ⊢;omega)).mono ?_;rintro e w2⟨mZ,rfl,d⟩;clear c2 c3 a k r P;obtain⟨c2,c3,a,k,r⟩:=dJ (O d.o.tl);go_wp2_with fail;refine (Sb (l:=(PY (i:Int) (eO ⟨aF xs,its⟩ (aQ ⟨aF xs,its⟩ f) i 0) (eO ⟨aF xs,its⟩ (aQ ⟨aF xs,its⟩ f) i 1) (eO ⟨aF xs,its⟩ (aQ ⟨aF xs,its⟩ f) i 2) 2 ++ [lz [101,108,115,101] (-1)])) (R_ d HX.o u.o (List.mem_cons_of_mem _ (Gn _ _ _ _ _)) (List.mem_cons_of_mem _ (Kc _ _ _ _ _)) (j:=2) (by omega) (V.o 2 (by omega)) (by have:=J.o;rw [eU];simp [aj,PY] at this ⊢;omega)) (by simp)).mono ?_;rintro e w3⟨U,rfl,M⟩;clear c2 c3 a k r d;go_wp2_with fail;exact⟨⟨3,U,by omega,by go_num,O (by have h:=M.o;simpa [PY] using h)⟩,by simp [intOf]⟩
  ·go_wp2_with fail;go_end0
   exact⟨wP,rfl,O (by have h:=t.o.tl.xe;simpa [PY] using h)⟩
end
end
