/-
  A part of the proof.
-/
import Derived.Test.YtalghggmkojblaaGreatDoorS23
set_option linter.all false
set_option maxRecDepth 100000
set_option maxHeartbeats 4000000
set_option linter.all false
namespace Mist
structure Ru (T:Tr):Prop where
 right:∀ i,i < T.nodes.length→qO T i=true
 fo:Fo T.nodes 0 T.nodes.length T.items
 num:∀ i,i < T.nodes.length→NmZ (nd T i)
theorem Ru.kid {T:Tr}(h:Ru T){i j:Nat}(hi:i < T.nodes.length)(a:j < (nd T i).kids.length):∃ q:Nat,(nd T i).kids[j]? = some (q:Int)∧q < i:=by
 obtain⟨n,m,e,_,b⟩:=h.fo.each i (amN _) hi;have en:=mU e;rw [en] at a ⊢
 have h1:=b.ids n.kids[j] (List.getElem_mem a);exact⟨n.kids[j].toNat,by rw [amF a];congr 1;omega,by omega⟩
end Mist
namespace Go.Proofs.YtalghggmkojblaaGreatDoor
section
open Go.RowKit Mist
section
variable {S:Sz} {B g n c:Nat} {w W:World} {A Bi:Option Addr} {iv pv:Value} {ps l:List Pz} {xs:List NV} {its:List Int}
theorem Ru.kx (X:CX w B A Bi n xs its)(b:Ru ⟨aH xs,its⟩){i:Nat}{x:NV}(a:xs[i]? = some x){f:Nat}(t:i≤f):KX w B g A n c iv xs its f i x :=
 ⟨a,fun j k=>by
  have hi:i < xs.length:=(amG.1 a).1;have m:(⟨aH xs,its⟩:Tr).nodes.length=xs.length:=by simp [aH]
  have e:=bD its a;obtain⟨q,d,r⟩:=b.kid (i:=i) (j:=j) (by rw [m];exact hi) (by rw [e];exact k);rw [e] at d
  obtain⟨y,hy⟩:=nE (xs:=xs) (i:=q) (by omega);exact⟨q,y,d,hy,by omega⟩⟩
theorem aaO (X:CX w B A Bi n xs its)(d:Ru ⟨aH xs,its⟩):∀ f i,i+1 < f→i < n→iT (nd (⟨aH xs,its⟩:Tr) i).kind=true→((nd (⟨aH xs,its⟩:Tr) i).kind=1→0≤(nd (⟨aH xs,its⟩:Tr) i).n)→XC w B g A n c iv ⟨aH xs,its⟩ f i:=by
 intro f
 induction f using Nat.strongRecOn with
 | _ f ih =>
  intro i hif D M Q;have Z:(⟨aH xs,its⟩:Tr).nodes.length=n:=by rw [← X.len];simp [aH]
  obtain⟨f,rfl⟩:∃ f',f=f'+1:=⟨f - 1,by omega⟩;obtain⟨x,hx⟩:=nE (xs:=xs) (i:=i) (by rw [X.len];exact D);have m:=bD its hx;have Y:=rtZ (d.right i (by rw [Z];exact D));have K:KX w B g A n c iv xs its f i x:=Ru.kx X d hx (by omega);have b:0 < f:=by omega
  have kid:∀ j q,x.1.kids[j]? = some ((q:Nat):Int)→q < i∧q < n∧ku x.1 j (nd (⟨aH xs,its⟩:Tr) q).kind=true∧((nd (⟨aH xs,its⟩:Tr) q).kind=1→(nd (⟨aH xs,its⟩:Tr) q).n < 0→x.1.kind=40):=by
   intro j q e;have N:j < x.1.kids.length:=(amG.1 e).1;obtain⟨q',e1,e2⟩:=d.kid (i:=i) (j:=j) (by rw [Z];exact D) (by rw [m];exact N);rw [m,e] at e1
   injection e1 with e1
   have:q=q':=by omega
   subst this;have h1:=Y.kid j (by rw [m];exact N);have h2:=Y.neg j (by rw [m];exact N);rw [m] at h1 h2
   rw [amJ,e] at h1 h2
   exact⟨e2,by omega,h1,h2⟩
  have E:(x.1.kind ≠ 24∧x.1.kind ≠ 41∧x.1.kind ≠ 34∧x.1.kind ≠ 33∧x.1.kind ≠ 40∧x.1.kind ≠ 42)→∀ j,j < x.1.kids.length→KE w B g A n c iv xs its f x j:=by
   intro P j N q e;obtain⟨h1,h2,h3,h4⟩:=kid j q e
   have he:iT (nd (⟨aH xs,its⟩:Tr) q).kind=true:=by
    unfold ku at h3
    rwa [if_neg P.1,if_neg P.2.1,if_neg (by omega),if_neg P.2.2.2.2.1,if_neg P.2.2.2.2.2] at h3
   exact ih f (by omega) q (by omega) h2 he (fun k=>by
    rcases Int.lt_or_le (nd (⟨aH xs,its⟩:Tr) q).n 0 with h5 | h5
    ·exact absurd (h4 k h5) P.2.2.2.2.1
    ·exact h5)
  have eb:aQ ⟨aH xs,its⟩ (f+1) i=bQ ⟨aH xs,its⟩ (aQ ⟨aH xs,its⟩ f) i:=rfl;intro S W pv ps H a;rw [eb] at a ⊢
  rw [m] at M Q
  have t:=Y.many;have tu:=Y.num;rw [m] at t tu
  simp [iT] at M
  by_cases R:x.1.kind=1
  ·have h0:=Q R;have h1:=aen R tu;have en:=wM (T:=⟨aH xs,its⟩) (B:=aQ ⟨aH xs,its⟩ f) (i:=i) (by rw [m];exact R);rw [m] at en
   have e2:nG x.1.n (i:Int)=[tz (Go.Lib.itoa x.1.n) (i:Int)]:=by unfold nG;rw [if_neg (by omega)]
   rw [e2] at en
   rw [en] at a ⊢
   exact aaS H X K R b (by omega) (by omega) a
  by_cases k2:x.1.kind=2
  ·exact WK H X K k2 b a
  by_cases k3:x.1.kind=3
  ·exact WM H X K k3 b a
  by_cases k4:x.1.kind=4
  ·exact aaQ H X K k4 b (many1 (by decide) _ k4 t) (E (by omega)) a
  by_cases k5:x.1.kind=5
  ·exact aaR H X K k5 b (many1 (by decide) _ k5 t) (E (by omega)) a
  by_cases F:x.1.kind=19
  ·exact adU H X K F b (abQ _ F t) (E (by omega)) a
  by_cases G:x.1.kind=20
  ·exact aaP H X K G b (uQ (by omega) _ G t) (E (by omega)) a
  refine WO H X K ⟨R,k2,k3,k4,k5,F,G⟩ b (fun S W pv ps b2 b3 h2 h3 H a=>?_) a;by_cases k21:x.1.kind=21
  ·exact Yk H X K k21 h2 h3 b (E (by omega)) a
  by_cases U:x.1.kind=22
  ·exact TQ H X K U h2 h3 b (many1 (by decide) _ U t) (E (by omega)) a
  by_cases V:x.1.kind=23
  ·exact TS H X K V h2 h3 b (uQ (by omega) _ V t) (E (by omega)) a
  by_cases k26:x.1.kind=26
  ·exact TP H X K k26 h2 h3 b (E (by omega)) a
  by_cases I:x.1.kind=24
  ·refine acL H X K I h2 h3 b (afE (.inl rfl) _ I t) (fun j q N e=>?_) a;obtain⟨h1,u,v,_⟩:=kid j q e
   have hq:(nd (⟨aH xs,its⟩:Tr) q).kind=25:=by
    unfold ku at v
    rw [if_pos I] at v
    simpa using v
   obtain⟨f2,rfl⟩:∃ f',f=f'+1:=⟨f - 1,by omega⟩;obtain⟨y,hy⟩:=nE (xs:=xs) (i:=q) (by rw [X.len];exact u);have J:=bD its hy;have C:=rtZ (d.right q (by rw [Z];exact u));have hlq:=C.len hq (many1 (by decide));rw [J] at hq hlq
   intro S W pv ps H a;rw [show aQ ⟨aH xs,its⟩ (f2+1) q=bQ ⟨aH xs,its⟩ (aQ ⟨aH xs,its⟩ f2) q from rfl] at a ⊢
   refine adX H X (Ru.kx X d hy (by omega)) hq (by omega) (fun r er=>?_) a;obtain⟨r',f1,f3⟩:=d.kid (i:=q) (j:=0) (by rw [Z];exact u) (by rw [J];omega);rw [J,er] at f1
   injection f1 with f1
   have hrr:r=r':=by omega
   subst hrr;have L:=C.kid 0 (by rw [J];omega);have g2:=C.neg 0 (by rw [J];omega);rw [J,amJ,er] at L g2
   have L:ku y.1 0 (nd (⟨aH xs,its⟩:Tr) r).kind=true:=L;unfold ku at L
   rw [if_neg (by omega),if_neg (by omega),if_neg (by omega),if_neg (by omega),if_neg (by omega)] at L
   exact ih f2 (by omega) r (by omega) (by omega) L (fun k=>by
    rcases Int.lt_or_le (nd (⟨aH xs,its⟩:Tr) r).n 0 with h5 | h5
    ·have:=g2 k h5;omega
    ·exact h5)
  ·exact ae1 H X K (by omega) h2 h3 b (uQ (by omega) _ rfl t) (E (by omega)) a
end
end
set_option linter.all false
section
open Go.RowKit Mist
attribute [local go_sem] ak aN aV aF aj
abbrev tS (h g:Nat) (cs:Array Value) (S:Sz):Sz:=(h+1,56,cs) :: (h,54,#[.pointer (some ⟨g,0,none⟩)]) :: S
section
variable {S:Sz} {B g n c f i j q b2 b3 b4 b6 h:Nat} {cs:Array Value} {w W:World} {A Bi:Option Addr} {nv iv pv:Value} {ps l:List Pz} {xs:List NV} {its:List Int} {x y:NV}
structure NdZ (W:World) (g n c i:Nat) (A:Option Addr) (x:NV) (b o:Nat) (Ka:Option Addr) (kc:Nat):Prop where
 a:A=some ⟨b,o,none⟩
 lt:b < W.heap.size
 gl:g < W.heap.size
 c0:W.cell? ⟨g,0,none⟩=some (.slice (some ⟨b,o,none⟩) n c)
 k0:W.cell? ⟨b,o+i * 5,none⟩=some (.int .u8 (x.1.kind:Nat))
 k1:W.cell? ⟨b,o+i * 5+1,none⟩=some (.string (aG x.1.text))
 k2:W.cell? ⟨b,o+i * 5+2,none⟩=some (.int .i64 x.1.n)
 k3:W.cell? ⟨b,o+i * 5+3,none⟩=some (.slice Ka x.1.kids.length kc)
 k4:W.cell? ⟨b,o+i * 5+4,none⟩=some (.int .i64 x.1.at_)
 x2:x.2=.slice Ka x.1.kids.length kc
 ki:IntsIn W Ka x.1.kids
 il:i < n
theorem CX.node (X:CX w B A Bi n xs its)(H:PZ S B g w W (.slice A n c) iv pv ps)(d:xs[i]? = some x):∃ b o k kc,NdZ W g n c i A x b o k kc:=by
 have hi:i < n:=by rw [← X.len];exact (amG.1 d).1
 obtain⟨b,o,r,a⟩:=(X.at_ H).nodes (by have:=X.len;omega);obtain⟨k,kc,e,t,m⟩:=a.kid d;exact⟨b,o,k,kc,r,a.lt,H.blk.lt,by rw [← r];exact H.blk.cell 0,a.c0 i x d,a.c1 i x d,a.c2 i x d,by rw [← e];exact a.c3 i x d,a.c4 i x d,e,m,hi⟩
theorem tsH (cs:Array Value)(H:Hid (PZ S B g w W nv iv pv ps)):Hid (PZ (tS W.heap.size g cs S) B g w ((W.alloc (.cells #[.pointer (some ⟨g,0,none⟩)] 54)).alloc (.cells cs 56)) nv iv pv ps):=by
 have a:(W.alloc (.cells #[.pointer (some ⟨g,0,none⟩)] 54)).heap.size=W.heap.size+1:=by simp
 have h3:=(H.o.box (T:=54) (cs:=#[.pointer (some ⟨g,0,none⟩)]) (by decide)).box (T:=56) (cs:=cs) (by decide);rw [a] at h3
 exact O h3
theorem uI (H:Hid (PZ (tS h g cs S) B g w W nv iv pv ps)):W.cell? ⟨h,0,none⟩=some (.pointer (some ⟨g,0,none⟩))∧W.cell? ⟨h+1,0,none⟩=cs[0]? ∧ W.cell? ⟨h+1,1,none⟩=cs[1]? ∧ W.cell? ⟨h+1,2,none⟩=cs[2]? ∧ W.cell? ⟨h+1,3,none⟩=cs[3]? :=
 ⟨(H.o.kp _ (List.mem_cons_of_mem _ (List.mem_cons_self ..))).1.cell 0,(H.o.kp _ (List.mem_cons_self ..)).1.cell 0,(H.o.kp _ (List.mem_cons_self ..)).1.cell 1,(H.o.kp _ (List.mem_cons_self ..)).1.cell 2,(H.o.kp _ (List.mem_cons_self ..)).1.cell 3⟩
theorem kk1 (H:Hid (PZ S B g w W (.slice A n c) iv pv ps))(X:CX w B A Bi n xs its)(D:xs[i]? = some x)(h4:(b4,54,#[.pointer (some ⟨g,0,none⟩)]) ∈ S)(h6:(b6,56,kY x) ∈ S)
  (t:x.1.kids[0]? = some ((q:Nat):Int)) (F:MC 84 w B g A n c iv ⟨aH xs,its⟩ f q) (C:ps.length+(aQ ⟨aH xs,its⟩ f q).length≤1000000) :
  Calls Tryz.prog 119 #[.pointer (some ⟨b4,0,none⟩),.pointer (some ⟨b6,0,none⟩)] W (lW S B g w (.slice A n c) iv (iL ps (aQ ⟨aH xs,its⟩ f q))):=by
 have c4:=(H.o.kp _ h4).1.cell 0;obtain⟨N,kc,k,r,d⟩:=X.kids H.o D;have J:0 < x.1.kids.length:=(amG.1 t).1;have v:W.cell? ⟨b6,3,none⟩=some x.2:=(H.o.kp _ h6).1.cell 3;obtain⟨kb,L,a,K,b⟩:=d.ex (by omega);have kq:W.cell? ⟨kb,L,none⟩=some (.int .i64 (q:Int)):=b 0 _ t;rw [k,a] at v
 simp only at c4
 generalize x.1.kids.length=m at *
 have Q:(0:Int) < (m:Int):=by omega
 have E:=O F;have G:=O C;clear C F X d k r b D t a;go_in
 go_still_tail 5,(by kernel_rfl)
 change wpList _ _ _ _ _ W.drew
 have u:=O H.o.drew
 generalize W.drew=w1 at u ⊢
 clear H c4 v kq;go_wp2_with fail;refine (E.o S _ pv ps u G.o).mono ?_;rintro e P⟨M,rfl,I⟩;go_wp2_with fail;go_end0
 exact⟨M,rfl,I⟩
theorem abF (H:Hid (PZ S B g w W (.slice A n c) iv pv ps))(X:CX w B A Bi n xs its)(a:xs[i]? = some x)(t:x.1.kind=30)
  (v:ps.length+(bQ ⟨aH xs,its⟩ (aQ ⟨aH xs,its⟩ f) i).length≤1000000) :
  Calls Tryz.prog 84 #[.pointer (some ⟨g,0,none⟩),.int .i64 i] W (lW S B g w (.slice A n c) iv (iL ps (bQ ⟨aH xs,its⟩ (aQ ⟨aH xs,its⟩ f) i))):=by
 have en:=Bh (T:=⟨aH xs,its⟩) (B:=aQ ⟨aH xs,its⟩ f) (i:=i) (by rw [bD its a];exact t)
 try rw [bD its a] at en
 rw [en] at v ⊢
 clear en;obtain⟨b,o,E,kc,M⟩:=X.node H.o a;obtain⟨m,k⟩:∃ m,m=x.1.kids.length:=⟨_,rfl⟩;obtain⟨L,r,N,J,k0,P,Q,F,R,d,u,hi⟩:=M;rw [t] at k0
 rw [← k] at F
 have k0:W.cell? ⟨b,o+i * 5,none⟩=some (.int .u8 30):=k0;have Y:=O (show kY x=#[.int .u8 30,.string (aG x.1.text),.int .i64 x.1.n,.slice E m kc,.int .i64 x.1.at_] from by unfold kY;rw [t,d,k];rfl);have U:(0:Int)≤(i:Int):=by omega
 have V:(i:Int) < (n:Int):=by omega
 have D:=tsH #[.int .u8 30,.string (aG x.1.text),.int .i64 x.1.n,.slice E m kc,.int .i64 x.1.at_] H;have G:=O v;have HX:=O X;have I:=O a;have Z:=O k;subst L;clear v X a k d u H;go_in
 go_wp2_with fail;refine (Cy D [105,110,116] (i:Int) (by have:=G.o;simp [au] at this;omega)).mono ?_;rintro e w1⟨yK,rfl,C⟩;clear J k0 P Q F R r N U V D;obtain⟨c2,K,gD,gF,jK⟩:=uI C;go_wp2_with fail;go_end0
 exact⟨_,rfl,O (by have h:=C.o.tl.tl;simpa [List.append_assoc] using h)⟩
theorem XB (H:Hid (PZ S B g w W (.slice A n c) iv pv ps))(X:CX w B A Bi n xs its)(a:xs[i]? = some x)(t:x.1.kind=31)
  (v:ps.length+(bQ ⟨aH xs,its⟩ (aQ ⟨aH xs,its⟩ f) i).length≤1000000) :
  Calls Tryz.prog 84 #[.pointer (some ⟨g,0,none⟩),.int .i64 i] W (lW S B g w (.slice A n c) iv (iL ps (bQ ⟨aH xs,its⟩ (aQ ⟨aH xs,its⟩ f) i))):=by
 have en:=Bl (T:=⟨aH xs,its⟩) (B:=aQ ⟨aH xs,its⟩ f) (i:=i) (by rw [bD its a];exact t)
 try rw [bD its a] at en
 rw [en] at v ⊢
 clear en;obtain⟨b,o,E,kc,M⟩:=X.node H.o a;obtain⟨m,k⟩:∃ m,m=x.1.kids.length:=⟨_,rfl⟩;obtain⟨L,r,N,J,k0,P,Q,F,R,d,u,hi⟩:=M;rw [t] at k0
 rw [← k] at F
 have k0:W.cell? ⟨b,o+i * 5,none⟩=some (.int .u8 31):=k0;have Y:=O (show kY x=#[.int .u8 31,.string (aG x.1.text),.int .i64 x.1.n,.slice E m kc,.int .i64 x.1.at_] from by unfold kY;rw [t,d,k];rfl);have U:(0:Int)≤(i:Int):=by omega
 have V:(i:Int) < (n:Int):=by omega
 have D:=tsH #[.int .u8 31,.string (aG x.1.text),.int .i64 x.1.n,.slice E m kc,.int .i64 x.1.at_] H;have G:=O v;have HX:=O X;have I:=O a;have Z:=O k;subst L;clear v X a k d u H;go_in
 go_wp2_with fail;refine (Cy D [98,111,111,108] (i:Int) (by have:=G.o;simp [au] at this;omega)).mono ?_;rintro e w1⟨yK,rfl,C⟩;clear J k0 P Q F R r N U V D;obtain⟨c2,K,gD,gF,jK⟩:=uI C;go_wp2_with fail;go_end0
 exact⟨_,rfl,O (by have h:=C.o.tl.tl;simpa [List.append_assoc] using h)⟩
theorem S_ (H:Hid (PZ S B g w W (.slice A n c) iv pv ps))(X:CX w B A Bi n xs its)(a:xs[i]? = some x)(t:x.1.kind=32)
  (v:ps.length+(bQ ⟨aH xs,its⟩ (aQ ⟨aH xs,its⟩ f) i).length≤1000000) :
  Calls Tryz.prog 84 #[.pointer (some ⟨g,0,none⟩),.int .i64 i] W (lW S B g w (.slice A n c) iv (iL ps (bQ ⟨aH xs,its⟩ (aQ ⟨aH xs,its⟩ f) i))):=by
 have en:=Bo (T:=⟨aH xs,its⟩) (B:=aQ ⟨aH xs,its⟩ f) (i:=i) (by rw [bD its a];exact t)
 try rw [bD its a] at en
 rw [en] at v ⊢
 clear en;obtain⟨b,o,E,kc,M⟩:=X.node H.o a;obtain⟨m,k⟩:∃ m,m=x.1.kids.length:=⟨_,rfl⟩;obtain⟨L,r,N,J,k0,P,Q,F,R,d,u,hi⟩:=M;rw [t] at k0
 rw [← k] at F
 have k0:W.cell? ⟨b,o+i * 5,none⟩=some (.int .u8 32):=k0;have Y:=O (show kY x=#[.int .u8 32,.string (aG x.1.text),.int .i64 x.1.n,.slice E m kc,.int .i64 x.1.at_] from by unfold kY;rw [t,d,k];rfl);have U:(0:Int)≤(i:Int):=by omega
 have V:(i:Int) < (n:Int):=by omega
 have D:=tsH #[.int .u8 32,.string (aG x.1.text),.int .i64 x.1.n,.slice E m kc,.int .i64 x.1.at_] H;have G:=O v;have HX:=O X;have I:=O a;have Z:=O k;subst L;clear v X a k d u H;go_in
 go_wp2_with fail;refine (Cy D x.1.text (i:Int) (by have:=G.o;simp [au] at this;omega)).mono ?_;rintro e w1⟨yK,rfl,C⟩;clear J k0 P Q F R r N U V D;obtain⟨c2,K,gD,gF,jK⟩:=uI C;go_wp2_with fail;go_end0
 exact⟨_,rfl,O (by have h:=C.o.tl.tl;simpa [List.append_assoc] using h)⟩
theorem XD (H:Hid (PZ S B g w W (.slice A n c) iv pv ps))(X:CX w B A Bi n xs its)(t:xs[i]? = some x)(Z:x.1.kind=33)(hq:x.1.kids[0]? = some ((q:Nat):Int))(n0:-1000000≤x.1.n)(n1:x.1.n≤1000000)(F:MC 84 w B g A n c iv ⟨aH xs,its⟩ f q)
  (I:ps.length+(bQ ⟨aH xs,its⟩ (aQ ⟨aH xs,its⟩ f) i).length≤1000000) :
  Calls Tryz.prog 84 #[.pointer (some ⟨g,0,none⟩),.int .i64 i] W (lW S B g w (.slice A n c) iv (iL ps (bQ ⟨aH xs,its⟩ (aQ ⟨aH xs,its⟩ f) i))):=by
 have en:=Br (T:=⟨aH xs,its⟩) (B:=aQ ⟨aH xs,its⟩ f) (i:=i) (by rw [bD its t];exact Z)
 try rw [bD its t] at en
 rw [en] at I ⊢
 clear en;obtain⟨b,o,V,kc,hZ⟩:=X.node H.o t;obtain⟨m,J⟩:∃ m,m=x.1.kids.length:=⟨_,rfl⟩;obtain⟨hA,Y,hg,c0,k0,k1,k2,k3,k4,C,hki,hi⟩:=hZ;rw [Z] at k0
 rw [← J] at k3
 have k0:W.cell? ⟨b,o+i * 5,none⟩=some (.int .u8 33):=k0;have EB:=O (show kY x=#[.int .u8 33,.string (aG x.1.text),.int .i64 x.1.n,.slice V m kc,.int .i64 x.1.at_] from by unfold kY;rw [Z,C,J];rfl);have y0:(0:Int)≤(i:Int):=by omega
 have y1:(i:Int) < (n:Int):=by omega
 have HS:=tsH #[.int .u8 33,.string (aG x.1.text),.int .i64 x.1.n,.slice V m kc,.int .i64 x.1.at_] H;have ek:dU ⟨aH xs,its⟩ (aQ ⟨aH xs,its⟩ f) i 0=aQ ⟨aH xs,its⟩ f q:=mh (by rw [bD its t];omega) (by rw [bD its t];exact hq);rw [ek] at I ⊢
 clear ek;have u:=O I;have E:=O X;have P:=O t;have HM:=O J;have HF:=O F;have Q:=O hq;have R:=O n0;have U:=O n1;subst hA;clear I X t J C hki H F hq n0 n1;go_in
 go_wp2_with fail;refine (Cy HS [91] (i:Int) (by have:=u.o;simp [au] at this;omega)).mono ?_;rintro e w1⟨yK,rfl,K⟩;clear c0 k0 k1 k2 k3 k4 Y hg y0 y1 HS;obtain⟨c2,a,d,k,r⟩:=uI K;go_wp2_with fail;refine (in2 K 119 #[.pointer (some ⟨W.heap.size,0,none⟩),.pointer (some ⟨W.heap.size+1,0,none⟩)] (aQ ⟨aH xs,its⟩ f q) (by simp) (by have:=u.o;simp [au] at this ⊢;omega) (fun W'=>by kernel_rfl) (fun W' pv' H'=>kk1 H' E.o P.o (List.mem_cons_of_mem _ (List.mem_cons_self ..)) (by rw [EB.o];exact List.mem_cons_self ..) Q.o HF.o (by have:=u.o;rw [d_];simp [au] at this ⊢;omega))).mono ?_;rintro e w2⟨nC,rfl,L⟩;clear c2 a d k r K;obtain⟨c2,a,d,k,r⟩:=uI L;go_wp2_with fail;refine (uV L [59] (-1) (by simp) (by have:=u.o;simp [au] at this ⊢;omega)).mono ?_;rintro e w3⟨uY,rfl,D⟩;clear c2 a d k r L;obtain⟨c2,a,d,k,r⟩:=uI D;have N:=O fun (W2:World) (G:Below w3.heap.size w3 W2)=>yC E.o.pow (D.o.MF.mono E.o.b) (Nat.le_trans E.o.b D.o.lw) R.o U.o G
 go_upto_region 6 with (fail)
 go_region_held3 (fun w'=>w'.cell? ⟨W.heap.size,0,none⟩=some (.pointer (some ⟨g,0,none⟩))∧w'.cell? ⟨W.heap.size+1,2,none⟩=some (.int .i64 x.1.n)) (first | go_keep|(go_split_ands;refine⟨?_,?_⟩ <;> assumption))
  ((first
    | (go_at_call 33
       refine (N.o _ (by (repeat (first|(with_reducible exact Below.refl _ _)|(with_reducible refine Below.drew ?_)));done)).mono ?_;rintro e wA⟨rfl,G⟩;have v:=O (D.o.below G);clear c2 a d k r G;obtain⟨c2,a,d,k,r⟩:=uI v)
    | (go_at_call 46
       refine (I6 (S:=tS W.heap.size g #[.int .u8 33,.string (aG x.1.text),.int .i64 x.1.n,.slice V m kc,.int .i64 x.1.at_] S) (by first | exact v | exact O v.o.drew | exact O v.o.drew.drew | exact O (v.o.drewN _)) (Go.Lib.itoa x.1.n) (-1) (by simp) (by have:=u.o;simp [au] at this ⊢;omega)).mono ?_;rintro e w4⟨Fh,rfl,M⟩;clear c2 a d k r;obtain⟨c2,a,d,k,r⟩:=uI M)))
 all_goals
  go_wp2_with fail;refine (uV M [93] (-1) (by simp) (by have:=u.o;simp [au] at this ⊢;omega)).mono ?_;rintro e w5⟨pv5,rfl,H5⟩;clear c2 a d k r M;obtain⟨c2,a,d,k,r⟩:=uI H5;go_wp2_with fail;go_end0
  exact⟨_,rfl,O (by have h:=H5.o.tl.tl;simpa [List.append_assoc] using h)⟩
theorem aeR (H:Hid (PZ S B g w W (.slice A n c) iv pv ps))(X:CX w B A Bi n xs its)(d:xs[i]? = some x)(hk:x.1.kind=34)(K:x.1.kids[0]? = some ((q:Nat):Int))(F:MC 84 w B g A n c iv ⟨aH xs,its⟩ f q)
  (J:ps.length+(bQ ⟨aH xs,its⟩ (aQ ⟨aH xs,its⟩ f) i).length≤1000000) :
  Calls Tryz.prog 51 #[.pointer (some ⟨g,0,none⟩),.int .i64 i] W (lW S B g w (.slice A n c) iv (iL ps (bQ ⟨aH xs,its⟩ (aQ ⟨aH xs,its⟩ f) i))):=by
 have en:=Bt (T:=⟨aH xs,its⟩) (B:=aQ ⟨aH xs,its⟩ f) (i:=i) (by rw [bD its d];exact hk);have Y:dU ⟨aH xs,its⟩ (aQ ⟨aH xs,its⟩ f) i 0=aQ ⟨aH xs,its⟩ f q:=mh (by rw [bD its d];omega) (by rw [bD its d];exact K);rw [bD its d,Y] at en
 rw [en] at J ⊢
 obtain⟨b,o,Ka,kc,E⟩:=X.node H.o d;obtain⟨C,r,Z,V,k0,L,M,N,P,k,a,hi⟩:=E;have y0:(0:Int)≤(i:Int):=by omega
 have y1:(i:Int) < (n:Int):=by omega
 have u:=O J;have HX:=O X;have v:=O d;have U:=O K;have HF:=O F;have HA:=O C;rw [C];clear J X d K F k a en Y k0 M N P;go_in
 go_wp2_with fail;refine (Cy H x.1.text (i:Int) (by have:=u.o;simp [au] at this;omega)).mono ?_;rintro e w2⟨nC,rfl,Q⟩;clear V L r Z;go_wp2_with fail;refine (uV Q [58] (-1) (by simp) (by have:=u.o;simp [au] at this ⊢;omega)).mono ?_;rintro e w3⟨uY,rfl,R⟩;clear Q H;obtain⟨b',o',Kb,kc',E⟩:=HX.o.node R.o v.o;obtain⟨D,r,Z,V,k0,L,M,N,P,k,a,G⟩:=E;have I:0 < x.1.kids.length:=(amG.1 U.o).1;obtain⟨kb,ko,m,hkb,t⟩:=a.ex I;have kq:w3.cell? ⟨kb,ko,none⟩=some (.int .i64 (q:Int)):=t 0 _ U.o;rw [m] at N
 have y3:(0:Int) < ((x.1.kids.length:Nat):Int):=by omega
 clear k0 L M P k a t m D C G;go_wp2_with fail;refine (HF.o S _ uY _ R (by have:=u.o;rw [d_];simp [au] at this ⊢;omega)).mono ?_;rintro e w4⟨Fh,rfl,H4⟩;go_wp2_with fail;go_end0
 exact⟨Fh,rfl,O (by have h:=H4.o;rw [tJ ps _ _ (by simp)] at h;rw [← HA.o];exact h)⟩
end
theorem OM {B g n c:Nat}{w:World}{A Bi:Option Addr}{iv:Value}{xs:List NV}{its:List Int}(X:CX w B A Bi n xs its)(d:Ru ⟨aH xs,its⟩):∀ f i,i+1 < f→i < n→kg (nd (⟨aH xs,its⟩:Tr) i).kind=true→MC 84 w B g A n c iv ⟨aH xs,its⟩ f i:=by
 intro f
 induction f with
 | zero=>intro i h;omega
 | succ f F =>
  intro i E a D;have t:(⟨aH xs,its⟩:Tr).nodes.length=n:=by rw [← X.len];simp [aH]
  obtain⟨x,m⟩:=nE (xs:=xs) (i:=i) (by rw [X.len];exact a);have b:=bD its m;have C:=rtZ (d.right i (by rw [t];exact a));have v:=d.num i (by rw [t];exact a);rw [b] at v
  intro S W pv ps H e;rw [show aQ ⟨aH xs,its⟩ (f+1) i=bQ ⟨aH xs,its⟩ (aQ ⟨aH xs,its⟩ f) i from rfl] at e ⊢
  rw [b] at D
  simp [kg] at D
  rcases (by omega:x.1.kind=30∨x.1.kind=31∨x.1.kind=32∨x.1.kind=33) with k | k | k | k
  ·exact abF H X m k e
  ·exact XB H X m k e
  ·exact S_ H X m k e
  ·have u:=C.len (k:=33) (by rw [b];exact k) (many1 (by decide));rw [b] at u
   obtain⟨q,r,G⟩:=d.kid (i:=i) (j:=0) (by rw [t];exact a) (by rw [b];omega);rw [b] at r
   have h1:=C.kid 0 (by rw [b];omega);rw [b,amJ,r] at h1
   have h1:ku x.1 0 (nd (⟨aH xs,its⟩:Tr) q).kind=true:=h1;unfold ku at h1
   rw [if_neg (by omega),if_neg (by omega),if_pos (by omega)] at h1
   have:=v.Vo k
   exact XD H X m k r (by omega) (by omega) (F q (by omega) (by omega) h1) e
theorem JY {B g n c:Nat}{w:World}{A Bi:Option Addr}{iv:Value}{xs:List NV}{its:List Int}(X:CX w B A Bi n xs its)(b:Ru ⟨aH xs,its⟩)(f i:Nat)(D:i+1 < f)(a:i < n)(m:(nd (⟨aH xs,its⟩:Tr) i).kind=34):MC 51 w B g A n c iv ⟨aH xs,its⟩ f i:=by
 obtain⟨f,rfl⟩:∃ C,f=C+1:=⟨f - 1,by omega⟩;have u:(⟨aH xs,its⟩:Tr).nodes.length=n:=by rw [← X.len];simp [aH]
 obtain⟨x,v⟩:=nE (xs:=xs) (i:=i) (by rw [X.len];exact a);have d:=bD its v;have r:=rtZ (b.right i (by rw [u];exact a));intro S W pv ps H t;rw [show aQ ⟨aH xs,its⟩ (f+1) i=bQ ⟨aH xs,its⟩ (aQ ⟨aH xs,its⟩ f) i from rfl] at t ⊢
 have k:=r.len m (many1 (by decide));rw [d] at m k
 obtain⟨q,e,E⟩:=b.kid (i:=i) (j:=0) (by rw [u];exact a) (by rw [d];omega);rw [d] at e
 have h1:=r.kid 0 (by rw [d];omega);rw [d,amJ,e] at h1
 have h1:ku x.1 0 (nd (⟨aH xs,its⟩:Tr) q).kind=true:=h1;unfold ku at h1
 rw [if_neg (by omega),if_neg (by omega),if_pos (by omega)] at h1
 exact aeR H X v m e (OM X b f q (by omega) (by omega) h1) t
end
set_option linter.all false
section
open Go.RowKit Mist
attribute [local go_sem] ak aN aV aF aj
section
variable {S:Sz} {B g n c f i:Nat} {w W:World} {A Bi:Option Addr} {nv iv pv:Value} {ps l:List Pz} {xs:List NV} {its:List Int} {x y:NV}
theorem aes (H:Hid (PZ S B g w W (.slice A n c) iv pv ps))(X:CX w B A Bi n xs its)(G:xs[i]? = some x)(v:-1000000≤x.1.n)(C:x.1.n≤1000000)(F:0≤x.1.n)(Y:ps.length+2≤1000000) :
  Calls Tryz.prog 48 #[.pointer (some ⟨g,0,none⟩),.int .i64 i,.bool false] W (lW S B g w (.slice A n c) iv (iL ps (nG x.1.n (i:Int)))):=by
 have E:=O (show nG x.1.n (i:Int)=[tz (Go.Lib.itoa x.1.n) (i:Int)] from by unfold nG;rw [if_neg (by omega)]);rw [E.o];obtain⟨b,o,V,kc,k,r,Q,P,k0,R,I,T,U,u,t,hi⟩:=X.node H.o G;have y0:(0:Int)≤(i:Int):=by omega
 have y1:(i:Int) < (n:Int):=by omega
 have d:=O X;have K:=O k;rw [k];obtain⟨N,m⟩:∃ N,N=x.1.n:=⟨_,rfl⟩;rw [← m] at I v C F ⊢
 have L:=O v;have M:=O C;have xK:=O m;have z1:¬ N < 0:=by omega
 clear X G u t k k0 R T U v C m F E;go_in
 go_wp2_with fail;refine (yC d.o.pow (H.o.MF.mono d.o.b) (Nat.le_trans d.o.b H.o.lw) (N:=N) L.o M.o (Below.refl _ _)).mono ?_;rintro e w2⟨rfl,a⟩;have D:=O (H.o.below a);clear a P I r Q;go_wp2_with fail;refine (Cy D (Go.Lib.itoa N) (i:Int) (by omega)).mono ?_;rintro e w3⟨Z,rfl,J⟩;clear D;go_wp2_with fail;go_end0
 exact⟨_,rfl,O (by rw [← K.o];exact J.o)⟩
theorem aer (H:Hid (PZ S B g w W (.slice A n c) iv pv ps))(X:CX w B A Bi n xs its)(R:xs[i]? = some x)(I:-1000000≤x.1.n)(J:x.1.n≤1000000)(P:0≤x.1.n)(hb:ps.length+2≤1000000) :
  Calls Tryz.prog 48 #[.pointer (some ⟨g,0,none⟩),.int .i64 i,.bool true] W (lW S B g w (.slice A n c) iv (ps ++ cZ false (nG x.1.n (i:Int)))):=by
 have L:=O (show nG x.1.n (i:Int)=[tz (Go.Lib.itoa x.1.n) (i:Int)] from by unfold nG;rw [if_neg (by omega)]);rw [L.o];obtain⟨b,o,Ka,kc,u,E,hg,c0,k0,k1,T,k3,k4,G,F,hi⟩:=X.node H.o R;have y0:(0:Int)≤(i:Int):=by omega
 have y1:(i:Int) < (n:Int):=by omega
 have r:=O X;have Y:=O u;rw [u];obtain⟨N,C⟩:∃ N,N=x.1.n:=⟨_,rfl⟩;rw [← C] at T I J P ⊢
 have N0:=O I;have N1:=O J;have xK:=O C;have z1:¬ N < 0:=by omega
 clear X R G F u k0 k1 k3 k4 I J C P L;go_in
 go_wp2_with fail;refine (yC r.o.pow (H.o.MF.mono r.o.b) (Nat.le_trans r.o.b H.o.lw) (N:=N) N0.o N1.o (Below.refl _ _)).mono ?_;rintro e w2⟨rfl,k⟩;have K:=O (H.o.below k);clear k c0 T E hg;go_wp2_with fail;refine (Cy K (Go.Lib.itoa N) (i:Int) (by omega)).mono ?_;rintro e w3⟨uY,rfl,m⟩;clear K;obtain⟨M,v⟩:∃ M,M=(iL ps [tz (Go.Lib.itoa N) (i:Int)]).length:=⟨_,rfl⟩;have d:M=ps.length+1:=by rw [v,d_];simp
 obtain⟨U,t,a⟩:=dA m.o.own;have d2:w3.cell? ⟨g,2,none⟩=some (.slice U M t):=by rw [v,← a];exact m.o.blk.cell 2
 obtain⟨Q,hQ⟩:∃ Q,Q=ps.length:=⟨_,rfl⟩;rw [← hQ] at d hb
 have Z:=O hQ;have w1:wrap64 ((M:Int) - 1)=(Q:Int):=by unfold wrap64;omega
 have D:Q≤1000000:=by omega
 clear v a hQ d;go_wp2_with fail;refine (cl1 m Q D).mono ?_;rintro e w4⟨Fh,rfl,V⟩;clear d2;go_wp2_with fail;go_end0
 exact⟨_,rfl,O (by have h:=V.o;rw [Z.o,wJ] at h;rw [← Y.o];exact h)⟩
theorem aep (H:Hid (PZ S B g w W (.slice A n c) iv pv ps))(X:CX w B A Bi n xs its)(I:xs[i]? = some x)(D:-1000000≤x.1.n)(E:x.1.n≤1000000)(k:x.1.n < 0)(Z:ps.length+2≤1000000) :
  Calls Tryz.prog 48 #[.pointer (some ⟨g,0,none⟩),.int .i64 i,.bool false] W (lW S B g w (.slice A n c) iv (iL ps (nG x.1.n (i:Int)))):=by
 have G:=O (show nG x.1.n (i:Int)=[tz [45] (i:Int),tz (Go.Lib.itoa (-x.1.n)) (-1)] from by unfold nG;rw [if_pos k]);rw [G.o];obtain⟨b,o,Y,kc,r,u,R,Q,k0,T,J,U,V,C,v,hi⟩:=X.node H.o I;have y0:(0:Int)≤(i:Int):=by omega
 have y1:(i:Int) < (n:Int):=by omega
 have m:=O X;have L:=O r;rw [r];obtain⟨N,t⟩:∃ N,N=x.1.n:=⟨_,rfl⟩;rw [← t] at J D E k ⊢
 have M:=O D;have P:=O E;have xK:=O t;have z0:¬ (0:Int)≤N:=by omega
 have z1:N < 0:=k;have wn:wrap64 (-N)=-N:=by unfold wrap64;omega
 clear X I C v r k0 T U V D E t k G;go_in
 go_wp2_with fail;refine (Cy H [45] (i:Int) (by omega)).mono ?_;rintro e w1⟨yK,rfl,d⟩;clear Q J u R;go_wp2_with fail;refine (yC m.o.pow (d.o.MF.mono m.o.b) (Nat.le_trans m.o.b d.o.lw) (N:=-N) (by have:=P.o;omega) (by have:=M.o;omega) (Below.refl _ _)).mono ?_;rintro e w2⟨rfl,a⟩;have F:=O (d.o.below a);clear a d;go_wp2_with fail;refine (uV F (Go.Lib.itoa (-N)) (-1) (by simp) (by simp;omega)).mono ?_;rintro e w3⟨uY,rfl,K⟩;clear F;go_wp2_with fail;go_end0
 exact⟨_,rfl,O (by rw [← L.o];exact K.o)⟩
theorem aeo (H:Hid (PZ S B g w W (.slice A n c) iv pv ps))(X:CX w B A Bi n xs its)(V:xs[i]? = some x)(P:-1000000≤x.1.n)(R:x.1.n≤1000000)(t:x.1.n < 0)(hb:ps.length+2≤1000000) :
  Calls Tryz.prog 48 #[.pointer (some ⟨g,0,none⟩),.int .i64 i,.bool true] W (lW S B g w (.slice A n c) iv (ps ++ cZ false (nG x.1.n (i:Int)))):=by
 have U:=O (show nG x.1.n (i:Int)=[tz [45] (i:Int),tz (Go.Lib.itoa (-x.1.n)) (-1)] from by unfold nG;rw [if_pos t]);rw [U.o];obtain⟨b,o,Ka,kc,D,J,hg,c0,k0,k1,Y,k3,k4,L,K,hi⟩:=X.node H.o V;have y0:(0:Int)≤(i:Int):=by omega
 have y1:(i:Int) < (n:Int):=by omega
 have v:=O X;have HA:=O D;rw [D];obtain⟨N,G⟩:∃ N,N=x.1.n:=⟨_,rfl⟩;rw [← G] at Y P R t ⊢
 have N0:=O P;have N1:=O R;have xK:=O G;have z0:¬ (0:Int)≤N:=by omega
 have z1:N < 0:=t;have wn:wrap64 (-N)=-N:=by unfold wrap64;omega
 clear X V L K D k0 k1 k3 k4 P R G t U;go_in
 go_wp2_with fail;refine (Cy H [45] (i:Int) (by omega)).mono ?_;rintro e w1⟨yK,rfl,m⟩;clear c0 Y J hg;go_wp2_with fail;refine (yC v.o.pow (m.o.MF.mono v.o.b) (Nat.le_trans v.o.b m.o.lw) (N:=-N) (by have:=N1.o;omega) (by have:=N0.o;omega) (Below.refl _ _)).mono ?_;rintro e w2⟨rfl,k⟩;have T:=O (m.o.below k);clear k m;go_wp2_with fail;refine (uV T (Go.Lib.itoa (-N)) (-1) (by simp) (by simp;omega)).mono ?_;rintro e w3⟨uY,rfl,u⟩;clear T;obtain⟨M,E⟩:∃ M,M=(iL ps ([tz [45] (i:Int)] ++ [tz (Go.Lib.itoa (-N)) (-1)])).length:=⟨_,rfl⟩;have d:M=ps.length+2:=by rw [E,d_];simp
 obtain⟨Z,C,a⟩:=dA u.o.own;have d2:w3.cell? ⟨g,2,none⟩=some (.slice Z M C):=by rw [E,← a];exact u.o.blk.cell 2
 obtain⟨Q,hQ⟩:∃ Q,Q=ps.length:=⟨_,rfl⟩;rw [← hQ] at d hb
 have HQ:=O hQ;obtain⟨r,F⟩:∃ r,r=Q+1:=⟨_,rfl⟩;have w1:wrap64 ((M:Int) - 1)=(r:Int):=by unfold wrap64;omega
 have w2:wrap64 ((r:Int) - 1)=(Q:Int):=by unfold wrap64;omega
 clear F;have I:Q≤1000000:=by omega
 clear E a hQ d;go_wp2_with fail;refine (cl1 u Q I).mono ?_;rintro e w4⟨Fh,rfl,H4⟩;clear d2;go_wp2_with fail;go_end0
 exact⟨_,rfl,O (by have h:=H4.o;rw [HQ.o,wJ] at h;rw [← HA.o];exact h)⟩
theorem ab1 (H:Hid (PZ S B g w W (.slice A n c) iv pv ps))(X:CX w B A Bi n xs its)(b:xs[i]? = some x)(d:-1000000≤x.1.n)(e:x.1.n≤1000000)(a:ps.length+2≤1000000) :
  Calls Tryz.prog 48 #[.pointer (some ⟨g,0,none⟩),.int .i64 i,.bool false] W (lW S B g w (.slice A n c) iv (iL ps (nG x.1.n (i:Int)))):=by
 rcases Int.lt_or_le x.1.n 0 with h | h
 ·exact aep H X b d e h a
 ·exact aes H X b d e h a
theorem XO (H:Hid (PZ S B g w W (.slice A n c) iv pv ps))(X:CX w B A Bi n xs its)(b:xs[i]? = some x)(d:-1000000≤x.1.n)(e:x.1.n≤1000000)(a:ps.length+2≤1000000) :
  Calls Tryz.prog 48 #[.pointer (some ⟨g,0,none⟩),.int .i64 i,.bool true] W (lW S B g w (.slice A n c) iv (ps ++ cZ false (nG x.1.n (i:Int)))):=by
 rcases Int.lt_or_le x.1.n 0 with h | h
 ·exact aeo H X b d e h a
 ·exact aer H X b d e h a
end
end
