/-
  A part of the proof.
-/
import Derived.Test.YtalghggmkojblaaGreatDoorS20
set_option linter.all false
set_option maxRecDepth 100000
set_option maxHeartbeats 4000000
set_option linter.all false
namespace Go.Proofs.YtalghggmkojblaaGreatDoor
section
open Go.RowKit Mist
attribute [local go_sem] ak aN aV aF aj
abbrev rS (h g b2 b3:Nat) (cs:Array Value) (S:Sz):Sz:=(h+2,53,#[Gp b2 b3]) :: (h+1,56,cs) :: (h,54,#[.pointer (some ⟨g,0,none⟩)]) :: S
section
variable {S:Sz} {B g n c f i j q b2 b3 h:Nat} {cs:Array Value} {w W:World} {A Bi:Option Addr} {nv iv pv:Value} {ps l:List Pz} {xs:List NV} {its:List Int} {x y:NV}
theorem rsH (b2 b3:Nat)(cs:Array Value)(H:Hid (PZ S B g w W nv iv pv ps)):Hid (PZ (rS W.heap.size g b2 b3 cs S) B g w (((W.alloc (.cells #[.pointer (some ⟨g,0,none⟩)] 54)).alloc (.cells cs 56)).alloc (.cells #[Gp b2 b3] 53)) nv iv pv ps):=by
 have a:(W.alloc (.cells #[.pointer (some ⟨g,0,none⟩)] 54)).heap.size=W.heap.size+1:=by simp
 have b:((W.alloc (.cells #[.pointer (some ⟨g,0,none⟩)] 54)).alloc (.cells cs 56)).heap.size=W.heap.size+2:=by simp
 have h3:=((H.o.box (T:=54) (cs:=#[.pointer (some ⟨g,0,none⟩)]) (by decide)).box (T:=56) (cs:=cs) (by decide)).box (T:=53) (cs:=#[Gp b2 b3]) (by decide);rw [a,b] at h3
 exact O h3
theorem iW (H:Hid (PZ (rS h g b2 b3 cs S) B g w W nv iv pv ps)):W.cell? ⟨h,0,none⟩=some (.pointer (some ⟨g,0,none⟩))∧W.cell? ⟨h+1,0,none⟩=cs[0]? ∧ W.cell? ⟨h+1,1,none⟩=cs[1]? ∧ W.cell? ⟨h+1,3,none⟩=cs[3]? ∧ W.cell? ⟨h+2,0,none⟩=some (.func (.func 121) #[] #[.pointer (some ⟨b2,0,none⟩),.pointer (some ⟨b3,0,none⟩)]) :=
 ⟨(H.o.kp _ (List.mem_cons_of_mem _ (List.mem_cons_of_mem _ (List.mem_cons_self ..)))).1.cell 0,(H.o.kp _ (List.mem_cons_of_mem _ (List.mem_cons_self ..))).1.cell 0,(H.o.kp _ (List.mem_cons_of_mem _ (List.mem_cons_self ..))).1.cell 1,(H.o.kp _ (List.mem_cons_of_mem _ (List.mem_cons_self ..))).1.cell 3,(H.o.kp _ (List.mem_cons_self ..)).1.cell 0⟩
theorem ag4 (h g b2 b3:Nat)(S:Sz)(e:kY x=cs):(h+1,56,kY x) ∈ rS h g b2 b3 cs S:=by rw [e];exact List.mem_cons_of_mem _ (List.mem_cons_self ..)
theorem ag3 (h g b2 b3:Nat)(cs:Array Value)(S:Sz):(h+2,53,#[Gp b2 b3]) ∈ rS h g b2 b3 cs S:=List.mem_cons_self ..
theorem ag5 (h g b2 b3:Nat)(cs:Array Value)(S:Sz):(h,54,#[.pointer (some ⟨g,0,none⟩)]) ∈ rS h g b2 b3 cs S:=List.mem_cons_of_mem _ (List.mem_cons_of_mem _ (List.mem_cons_self ..))
theorem Cg {e:Nat × TypeId × Array Value}(a:e ∈ S):e ∈ rS h g b2 b3 cs S:=List.mem_cons_of_mem _ (List.mem_cons_of_mem _ (List.mem_cons_of_mem _ a))
theorem PZ.rs (H:PZ (rS h g b2 b3 cs S) B g w W nv iv pv ps):PZ S B g w W nv iv pv ps:=H.tl.tl.tl
theorem VR {W a:World}(d:Below W.heap.size W a):Calls Tryz.prog 123 #[] a fun e b=>∃ k c,e=.returned (.map (some k))∧b.heap[k]? = some (.map (iG gB 0).toArray c)∧Below W.heap.size W b:=by
 refine (Y0 a).mono ?_;rintro e m⟨rfl,rfl⟩;exact⟨_,14,rfl,heap_alloc_new a _,d.alloc d.size _⟩
theorem Yk (H:Hid (PZ S B g w W (.slice A n c) iv pv ps))(X:CX w B A Bi n xs its)(K:KX w B g A n c iv xs its f i x)(N:x.1.kind=21)(h2:(b2,54,#[.pointer (some ⟨g,0,none⟩)]) ∈ S)(h3:(b3,3,#[.int .i64 (i:Nat)]) ∈ S)(Z:0 < f)(E:∀ j,j < x.1.kids.length→KE w B g A n c iv xs its f x j)
  (I:ps.length+(bQ ⟨aH xs,its⟩ (aQ ⟨aH xs,its⟩ f) i).length≤1000000) :
  Calls Tryz.prog 124 #[.pointer (some ⟨g,0,none⟩),.int .i64 i,.agg (kY x),Gp b2 b3] W (lW S B g w (.slice A n c) iv (iL ps (bQ ⟨aH xs,its⟩ (aQ ⟨aH xs,its⟩ f) i))):=by
 have en:=AY (T:=⟨aH xs,its⟩) (B:=aQ ⟨aH xs,its⟩ f) (i:=i) (by rw [bD its K.hx];exact N)
 try rw [bD its K.hx] at en
 rw [en] at I ⊢
 obtain⟨M,kc,t,hkl,G⟩:=X.kids H.o K.hx;obtain⟨m,J⟩:∃ m,m=x.1.kids.length:=⟨_,rfl⟩;have F:kY x=#[.int .u8 21,.string (aG x.1.text),.int .i64 x.1.n,.slice M m kc,.int .i64 x.1.at_]:=by unfold kY;rw [N,t,J];rfl
 have D:=rsH b2 b3 #[.int .u8 21,.string (aG x.1.text),.int .i64 x.1.n,.slice M m kc,.int .i64 x.1.at_] H;have P:=O F;have r:=O I;have V:=O X;have U:=O K;have HM:=O J;have R:=O E;obtain⟨c4,b,d,k,a⟩:=iW D;rw [F];unfold Gp;clear H t G I X K F J en E;go_in
 go_wp2_with fail;refine (Cy D x.1.text (i:Int) (by have:=r.o;simp [au] at this;omega)).mono ?_;rintro e w1⟨yK,rfl,u⟩;clear c4 b d k a D;obtain⟨c4,b,d,k,a⟩:=iW u;go_wp2_with fail;refine (uV u [40] (-1) (by simp) (by have:=r.o;simp [au] at this ⊢;omega)).mono ?_;rintro e w2⟨nC,rfl,v⟩;clear c4 b d k a u;obtain⟨c4,b,d,k,a⟩:=iW v;go_wp2_with fail;refine (in2 v 155 #[.pointer (some ⟨W.heap.size,0,none⟩),.pointer (some ⟨W.heap.size+1,0,none⟩),.pointer (some ⟨W.heap.size+2,0,none⟩)] (ig ⟨aH xs,its⟩ (aQ ⟨aH xs,its⟩ f) i x.1.kids.length) (by simp) (by have:=r.o;simp [au] at this ⊢;omega) (fun Y=>by kernel_rfl) (fun Y pv' Q=>rl1 Q V.o U.o (ag5 _ _ _ _ _ _) (ag4 _ _ _ _ _ P.o) (ag3 _ _ _ _ _ _) (Cg h2) (Cg h3) Z R.o (by have:=r.o;rw [d_];simp [au] at this ⊢;omega))).mono ?_;rintro e w3⟨uY,rfl,C⟩;clear c4 b d k a v;obtain⟨c4,b,d,k,a⟩:=iW C;go_wp2_with fail;refine (uV C [41] (-1) (by simp) (by have:=r.o;simp [au] at this ⊢;omega)).mono ?_;rintro e w4⟨Fh,rfl,L⟩;clear c4 b d k a C;obtain⟨c4,b,d,k,a⟩:=iW L;go_wp2_with fail;go_end0
 exact⟨_,rfl,O (by have h:=L.o.rs;simpa [List.append_assoc] using h)⟩
theorem TP (H:Hid (PZ S B g w W (.slice A n c) iv pv ps))(X:CX w B A Bi n xs its)(K:KX w B g A n c iv xs its f i x)(M:x.1.kind=26)(h2:(b2,54,#[.pointer (some ⟨g,0,none⟩)]) ∈ S)(h3:(b3,3,#[.int .i64 (i:Nat)]) ∈ S)(Y:0 < f)(E:∀ j,j < x.1.kids.length→KE w B g A n c iv xs its f x j)
  (G:ps.length+(bQ ⟨aH xs,its⟩ (aQ ⟨aH xs,its⟩ f) i).length≤1000000) :
  Calls Tryz.prog 124 #[.pointer (some ⟨g,0,none⟩),.int .i64 i,.agg (kY x),Gp b2 b3] W (lW S B g w (.slice A n c) iv (iL ps (bQ ⟨aH xs,its⟩ (aQ ⟨aH xs,its⟩ f) i))):=by
 have en:=Bg (T:=⟨aH xs,its⟩) (B:=aQ ⟨aH xs,its⟩ f) (i:=i) (by rw [bD its K.hx];exact M)
 try rw [bD its K.hx] at en
 rw [en] at G ⊢
 obtain⟨L,kc,r,Z,F⟩:=X.kids H.o K.hx;obtain⟨m,I⟩:∃ m,m=x.1.kids.length:=⟨_,rfl⟩;have D:kY x=#[.int .u8 26,.string (aG x.1.text),.int .i64 x.1.n,.slice L m kc,.int .i64 x.1.at_]:=by unfold kY;rw [M,r,I];rfl
 have C:=rsH b2 b3 #[.int .u8 26,.string (aG x.1.text),.int .i64 x.1.n,.slice L m kc,.int .i64 x.1.at_] H;have N:=O D;have t:=O G;have U:=O X;have R:=O K;have HM:=O I;have Q:=O E;obtain⟨c4,b,d,k,a⟩:=iW C;rw [D];unfold Gp;clear H r F G X K D I en E;go_in
 go_wp2_with fail;refine (Cy C [91] (i:Int) (by have:=t.o;simp [au] at this;omega)).mono ?_;rintro e w1⟨yK,rfl,u⟩;clear c4 b d k a C;obtain⟨c4,b,d,k,a⟩:=iW u;go_wp2_with fail;refine (in2 u 159 #[.pointer (some ⟨W.heap.size,0,none⟩),.pointer (some ⟨W.heap.size+1,0,none⟩),.pointer (some ⟨W.heap.size+2,0,none⟩)] (ig ⟨aH xs,its⟩ (aQ ⟨aH xs,its⟩ f) i x.1.kids.length) (by simp) (by have:=t.o;simp [au] at this ⊢;omega) (fun V=>by kernel_rfl) (fun V pv' P=>rl4 P U.o R.o (ag5 _ _ _ _ _ _) (ag4 _ _ _ _ _ N.o) (ag3 _ _ _ _ _ _) (Cg h2) (Cg h3) Y Q.o (by have:=t.o;rw [d_];simp [au] at this ⊢;omega))).mono ?_;rintro e w2⟨nC,rfl,v⟩;clear c4 b d k a u;obtain⟨c4,b,d,k,a⟩:=iW v;go_wp2_with fail;refine (uV v [93] (-1) (by simp) (by have:=t.o;simp [au] at this ⊢;omega)).mono ?_;rintro e w3⟨uY,rfl,J⟩;clear c4 b d k a v;obtain⟨c4,b,d,k,a⟩:=iW J;go_wp2_with fail;go_end0
 exact⟨_,rfl,O (by have h:=J.o.rs;simpa [List.append_assoc] using h)⟩
theorem TQ (H:Hid (PZ S B g w W (.slice A n c) iv pv ps))(X:CX w B A Bi n xs its)(K:KX w B g A n c iv xs its f i x)(M:x.1.kind=22)(h2:(b2,54,#[.pointer (some ⟨g,0,none⟩)]) ∈ S)(h3:(b3,3,#[.int .i64 (i:Nat)]) ∈ S)(U:0 < f)(Y:x.1.kids.length=1)(E:∀ j,j < x.1.kids.length→KE w B g A n c iv xs its f x j)
  (G:ps.length+(bQ ⟨aH xs,its⟩ (aQ ⟨aH xs,its⟩ f) i).length≤1000000) :
  Calls Tryz.prog 124 #[.pointer (some ⟨g,0,none⟩),.int .i64 i,.agg (kY x),Gp b2 b3] W (lW S B g w (.slice A n c) iv (iL ps (bQ ⟨aH xs,its⟩ (aQ ⟨aH xs,its⟩ f) i))):=by
 have en:=AZ (T:=⟨aH xs,its⟩) (B:=aQ ⟨aH xs,its⟩ f) (i:=i) (by rw [bD its K.hx];exact M)
 try rw [bD its K.hx] at en
 rw [en] at G ⊢
 obtain⟨L,kc,r,V,F⟩:=X.kids H.o K.hx;obtain⟨m,I⟩:∃ m,m=x.1.kids.length:=⟨_,rfl⟩;have D:kY x=#[.int .u8 22,.string (aG x.1.text),.int .i64 x.1.n,.slice L m kc,.int .i64 x.1.at_]:=by unfold kY;rw [M,r,I];rfl
 have C:=rsH b2 b3 #[.int .u8 22,.string (aG x.1.text),.int .i64 x.1.n,.slice L m kc,.int .i64 x.1.at_] H;have Z:=O D;have v:=O G;have Q:=O X;have P:=O K;have R:=O (K.ne U 0 (.inr rfl));have HM:=O I;have N:=O E;obtain⟨c4,b,d,k,a⟩:=iW C;rw [D];unfold Gp;clear H r F G X K D I en E;go_in
 go_wp2_with fail;refine (U_ C Q.o P.o (Cg h2) (Cg h3) (j:=0) (by omega) (N.o 0 (by omega)) (by have:=v.o;simp [au] at this;omega)).mono ?_;rintro e w1⟨yK,rfl,t⟩;clear c4 b d k a C;obtain⟨c4,b,d,k,a⟩:=iW t;go_wp2_with fail;refine (uV t [46] (i:Int) (R.o) (by have:=v.o;simp [au] at this ⊢;omega)).mono ?_;rintro e w2⟨nC,rfl,u⟩;clear c4 b d k a t;obtain⟨c4,b,d,k,a⟩:=iW u;go_wp2_with fail;refine (uV u x.1.text (-1) (by simp) (by have:=v.o;simp [au] at this ⊢;omega)).mono ?_;rintro e w3⟨uY,rfl,J⟩;clear c4 b d k a u;obtain⟨c4,b,d,k,a⟩:=iW J;go_wp2_with fail;go_end0
 exact⟨_,rfl,O (by have h:=J.o.rs;simpa [List.append_assoc] using h)⟩
theorem TS (H:Hid (PZ S B g w W (.slice A n c) iv pv ps))(X:CX w B A Bi n xs its)(K:KX w B g A n c iv xs its f i x)(R:x.1.kind=23)(h2:(b2,54,#[.pointer (some ⟨g,0,none⟩)]) ∈ S)(h3:(b3,3,#[.int .i64 (i:Nat)]) ∈ S)(Z:0 < f)(hm1:x.1.kids.length=2)(E:∀ j,j < x.1.kids.length→KE w B g A n c iv xs its f x j)
  (I:ps.length+(bQ ⟨aH xs,its⟩ (aQ ⟨aH xs,its⟩ f) i).length≤1000000) :
  Calls Tryz.prog 124 #[.pointer (some ⟨g,0,none⟩),.int .i64 i,.agg (kY x),Gp b2 b3] W (lW S B g w (.slice A n c) iv (iL ps (bQ ⟨aH xs,its⟩ (aQ ⟨aH xs,its⟩ f) i))):=by
 have en:=A_ (T:=⟨aH xs,its⟩) (B:=aQ ⟨aH xs,its⟩ f) (i:=i) (by rw [bD its K.hx];exact R)
 try rw [bD its K.hx] at en
 rw [en] at I ⊢
 obtain⟨Q,kc,t,hkl,G⟩:=X.kids H.o K.hx;obtain⟨m,J⟩:∃ m,m=x.1.kids.length:=⟨_,rfl⟩;have F:kY x=#[.int .u8 23,.string (aG x.1.text),.int .i64 x.1.n,.slice Q m kc,.int .i64 x.1.at_]:=by unfold kY;rw [R,t,J];rfl
 have D:=rsH b2 b3 #[.int .u8 23,.string (aG x.1.text),.int .i64 x.1.n,.slice Q m kc,.int .i64 x.1.at_] H;have EB:=O F;have r:=O I;have P:=O X;have N:=O K;have V:=O (K.ne Z 0 (.inr rfl));have HM:=O J;have M:=O E;obtain⟨c4,b,d,k,a⟩:=iW D;rw [F];unfold Gp;clear H t G I X K F J en E;go_in
 go_wp2_with fail;refine (U_ D P.o N.o (Cg h2) (Cg h3) (j:=0) (by omega) (M.o 0 (by omega)) (by have:=r.o;simp [au] at this;omega)).mono ?_;rintro e w1⟨yK,rfl,u⟩;clear c4 b d k a D;obtain⟨c4,b,d,k,a⟩:=iW u;go_wp2_with fail;refine (uV u [91] (i:Int) (V.o) (by have:=r.o;simp [au] at this ⊢;omega)).mono ?_;rintro e w2⟨nC,rfl,v⟩;clear c4 b d k a u;obtain⟨c4,b,d,k,a⟩:=iW v;go_wp2_with fail;refine (in2 v 156 #[.pointer (some ⟨W.heap.size+2,0,none⟩)] (dU ⟨aH xs,its⟩ (aQ ⟨aH xs,its⟩ f) i 1) (by simp) (by have:=r.o;simp [au] at this ⊢;omega) (fun Y=>by kernel_rfl) (fun Y pv' U=>rk2 U P.o N.o (ag3 _ _ _ _ _ _) (Cg h2) (Cg h3) (by omega) (M.o 1 (by omega)) (by have:=r.o;rw [d_];simp [au] at this ⊢;omega))).mono ?_;rintro e w3⟨uY,rfl,C⟩;clear c4 b d k a v;obtain⟨c4,b,d,k,a⟩:=iW C;go_wp2_with fail;refine (uV C [93] (-1) (by simp) (by have:=r.o;simp [au] at this ⊢;omega)).mono ?_;rintro e w4⟨Fh,rfl,L⟩;clear c4 b d k a C;obtain⟨c4,b,d,k,a⟩:=iW L;go_wp2_with fail;go_end0
 exact⟨_,rfl,O (by have h:=L.o.rs;simpa [List.append_assoc] using h)⟩
theorem acL (H:Hid (PZ S B g w W (.slice A n c) iv pv ps))(X:CX w B A Bi n xs its)(K:KX w B g A n c iv xs its f i x)(U:x.1.kind=24)(h2:(b2,54,#[.pointer (some ⟨g,0,none⟩)]) ∈ S)(h3:(b3,3,#[.int .i64 (i:Nat)]) ∈ S)(hf:0 < f)(hm1:1≤x.1.kids.length)(F:∀ j q,j < x.1.kids.length→x.1.kids[j]? = some ((q:Nat):Int)→MC 158 w B g A n c iv ⟨aH xs,its⟩ f q)
  (L:ps.length+(bQ ⟨aH xs,its⟩ (aQ ⟨aH xs,its⟩ f) i).length≤1000000) :
  Calls Tryz.prog 124 #[.pointer (some ⟨g,0,none⟩),.int .i64 i,.agg (kY x),Gp b2 b3] W (lW S B g w (.slice A n c) iv (iL ps (bQ ⟨aH xs,its⟩ (aQ ⟨aH xs,its⟩ f) i))):=by
 have en:=Bb (T:=⟨aH xs,its⟩) (B:=aQ ⟨aH xs,its⟩ f) (i:=i) (by rw [bD its K.hx];exact U)
 try rw [bD its K.hx] at en
 rw [en] at L ⊢
 obtain⟨Q,kc,d,J,I⟩:=X.kids H.o K.hx;obtain⟨m,M⟩:∃ m,m=x.1.kids.length:=⟨_,rfl⟩;have G:kY x=#[.int .u8 24,.string (aG x.1.text),.int .i64 x.1.n,.slice Q m kc,.int .i64 x.1.at_]:=by unfold kY;rw [U,d,M];rfl
 have D:=rsH b2 b3 #[.int .u8 24,.string (aG x.1.text),.int .i64 x.1.n,.slice Q m kc,.int .i64 x.1.at_] H;have Z:=O G;have P:=O L;have HX:=O X;have a:=O K;have b:=O M;have HF:=O F;obtain⟨c4,t,u,v,r⟩:=iW D;rw [G];unfold Gp;clear H d I L X K G M en F;go_in
 go_wp2_with fail;refine (Cy D x.1.text (i:Int) (by have:=P.o;simp [au] at this;omega)).mono ?_;rintro e w1⟨yK,rfl,C⟩;clear c4 t u v r D;obtain⟨c4,t,u,v,r⟩:=iW C;go_wp2_with fail
 refine (Nz true C (by simp) 157 #[.pointer (some ⟨W.heap.size,0,none⟩),.pointer (some ⟨W.heap.size+1,0,none⟩)] (dU ⟨aH xs,its⟩ (aQ ⟨aH xs,its⟩ f) i) m (a.o.ne hf 0 (.inr rfl)) (by have:=P.o;rw [b.o];simp [au,ig] at this ⊢;omega) (by rw [b.o];exact J) (fun j W'=>by kernel_rfl)
   (fun S' j W' pv' qs Y R V h=>by
    obtain⟨q,y,E,e2,e3⟩:=a.o.k j (by rw [← b.o];exact R);have ek:dU ⟨aH xs,its⟩ (aQ ⟨aH xs,its⟩ f) i j=aQ ⟨aH xs,its⟩ f q:=mh (by rw [bD its a.o.hx];omega) (by rw [bD its a.o.hx];exact E);rw [ek] at V ⊢
    exact rk3 h HX.o a.o.hx (Y _ (ag5 _ _ _ _ _ _)) (Y _ (ag4 _ _ _ _ _ Z.o)) E (HF.o j q (by rw [← b.o];exact R) E) V)).mono ?_
 rintro e w2⟨nC,rfl,N⟩;clear c4 t u v r C;obtain⟨c4,t,u,v,r⟩:=iW N;go_wp2_with fail;go_end0
 exact⟨_,rfl,O (by have h:=N.o.rs;rw [b.o] at h;simpa [ig,tz] using h)⟩
theorem ae1 (H:Hid (PZ S B g w W (.slice A n c) iv pv ps))(X:CX w B A Bi n xs its)(K:KX w B g A n c iv xs its f i x)(R:6≤x.1.kind∧x.1.kind≤18)(h2:(b2,54,#[.pointer (some ⟨g,0,none⟩)]) ∈ S)(h3:(b3,3,#[.int .i64 (i:Nat)]) ∈ S)(hf:0 < f)(hm1:x.1.kids.length=2)(E:∀ j,j < x.1.kids.length→KE w B g A n c iv xs its f x j)
  (F:ps.length+(bQ ⟨aH xs,its⟩ (aQ ⟨aH xs,its⟩ f) i).length≤1000000) :
  Calls Tryz.prog 124 #[.pointer (some ⟨g,0,none⟩),.int .i64 i,.agg (kY x),Gp b2 b3] W (lW S B g w (.slice A n c) iv (iL ps (bQ ⟨aH xs,its⟩ (aQ ⟨aH xs,its⟩ f) i))):=by
 have en:=BH (T:=⟨aH xs,its⟩) (B:=aQ ⟨aH xs,its⟩ f) (i:=i) (by rw [bD its K.hx];exact .inr (.inl R))
 try rw [bD its K.hx] at en
 rw [en] at F ⊢
 obtain⟨N,kc,C,hkl,U⟩:=X.kids H.o K.hx;obtain⟨m,Y⟩:∃ m,m=x.1.kids.length:=⟨_,rfl⟩;obtain⟨kd,t⟩:∃ k,k=x.1.kind:=⟨_,rfl⟩;rw [← t] at R F ⊢
 have Q:kY x=#[.int .u8 (kd:Nat),.string (aG x.1.text),.int .i64 x.1.n,.slice N m kc,.int .i64 x.1.at_]:=by unfold kY;rw [t,C,Y]
 have L:=rsH b2 b3 #[.int .u8 (kd:Nat),.string (aG x.1.text),.int .i64 x.1.n,.slice N m kc,.int .i64 x.1.at_] H;have EB:=O Q;have J:=O F;have HX:=O X;have HK:=O K;have K1:=O (K.ne hf 0 (.inr rfl));have HM:=O Y;have HE:=O E;obtain⟨c4,b,d,r,a⟩:=iW L;rw [Q];unfold Gp;clear H C U F X K Q Y en E t;have z21:((kd:Int) == 21)=false:=by simp;omega
 have z22:((kd:Int) == 22)=false:=by simp;omega
 have z23:((kd:Int) == 23)=false:=by simp;omega
 have z24:((kd:Int) == 24)=false:=by simp;omega
 have z26:((kd:Int) == 26)=false:=by simp;omega
 go_in
 go_wp2_with fail;refine (U_ L HX.o HK.o (Cg h2) (Cg h3) (j:=0) (by omega) (HE.o 0 (by omega)) (by have:=J.o;simp [au] at this;omega)).mono ?_;rintro e w1⟨yK,rfl,G⟩;clear c4 b d r a L;obtain⟨c4,b,d,r,a⟩:=iW G;go_upto_region 3 with (fail)
 have HW:=O fun (W2:World) (D:Below w1.heap.size w1 W2)=>VR D
 have M:=O (show Ep kd=Ej kd by unfold Ep;rw [if_neg (by omega),if_pos R])
 go_region_held3 (fun w'=>w'.cell? ⟨W.heap.size,0,none⟩=some (.pointer (some ⟨g,0,none⟩))∧w'.cell? ⟨W.heap.size+1,0,none⟩=some (.int .u8 (kd:Nat))) (first | go_keep|(go_split_ands;refine⟨?_,?_⟩ <;> assumption))
  ((first
    | (go_at_call 123
       refine (HW.o _ (by (repeat (first|(with_reducible exact Below.refl _ _)|(with_reducible refine Below.drew ?_)));done)).mono ?_;rintro e wA⟨mm,cc,rfl,v,D⟩;have u:=O (G.o.below D);have V:=AO wA mm cc v kd;have P:=AO wA.drew mm cc v kd;clear c4 b d r a D;obtain⟨c4,b,d,r,a⟩:=iW u)
    | (go_at_call 46
       refine (I6 (S:=rS W.heap.size g b2 b3 #[.int .u8 (kd:Nat),.string (aG x.1.text),.int .i64 x.1.n,.slice N m kc,.int .i64 x.1.at_] S) (by first | exact u | exact O u.o.drew | exact O u.o.drew.drew | exact O (u.o.drewN _)) (Ep kd) (i:Int) K1.o (by have:=J.o;simp [au] at this ⊢;omega)).mono ?_;rintro e w2⟨nC,rfl,I⟩;clear c4 b d r a V P;obtain⟨c4,b,d,r,a⟩:=iW I)))
 all_goals
  clear u G HW;go_wp2_with fail;refine (U_ I HX.o HK.o (Cg h2) (Cg h3) (j:=1) (by omega) (HE.o 1 (by omega)) (by have:=J.o;rw [d_];simp [au] at this ⊢;omega)).mono ?_;rintro e w3⟨uY,rfl,Z⟩;clear c4 b d r a I;obtain⟨c4,b,d,r,a⟩:=iW Z;go_wp2_with fail;go_end0
  exact⟨_,rfl,O (by have h:=Z.o.rs;rw [M.o,tJ ps _ _ (by simp)] at h;simpa [List.append_assoc] using h)⟩
end
end
set_option linter.all false
section
open Go.RowKit Mist
attribute [local go_sem] ak aN aV aF aj
abbrev xS (h g i:Nat) (cs:Array Value) (S:Sz):Sz:=(h+2,56,cs) :: (h+1,3,#[.int .i64 (i:Nat)]) :: (h,54,#[.pointer (some ⟨g,0,none⟩)]) :: S
section
variable {S:Sz} {B g n c f i j q b2 b3 h:Nat} {cs:Array Value} {w W:World} {A Bi:Option Addr} {nv iv pv:Value} {ps l:List Pz} {xs:List NV} {its:List Int} {x y:NV}
theorem Uv (W:World)(g i:Nat):((W.alloc (.cells #[.pointer (some ⟨g,0,none⟩)] 54)).alloc (.cells #[.int .i64 (i:Nat)] 3)).heap.size=W.heap.size+2:=by simp
theorem Ut (W:World)(g i:Nat):Below W.heap.size W ((W.alloc (.cells #[.pointer (some ⟨g,0,none⟩)] 54)).alloc (.cells #[.int .i64 (i:Nat)] 3)):=((Below.refl _ _).alloc (amL _) _).alloc (by simp) _
abbrev xS0 (h g i:Nat) (S:Sz):Sz:=(h+1,3,#[.int .i64 (i:Nat)]) :: (h,54,#[.pointer (some ⟨g,0,none⟩)]) :: S
theorem yR (i:Nat)(H:Hid (PZ S B g w W nv iv pv ps)):Hid (PZ (xS0 W.heap.size g i S) B g w ((W.alloc (.cells #[.pointer (some ⟨g,0,none⟩)] 54)).alloc (.cells #[.int .i64 (i:Nat)] 3)) nv iv pv ps):=by
 have a:(W.alloc (.cells #[.pointer (some ⟨g,0,none⟩)] 54)).heap.size=W.heap.size+1:=by simp
 have h3:=(H.o.box (T:=54) (cs:=#[.pointer (some ⟨g,0,none⟩)]) (by decide)).box (T:=3) (cs:=#[.int .i64 (i:Nat)]) (by decide);rw [a] at h3
 exact O h3
theorem kQ (H:Hid (PZ (xS0 h g i S) B g w W nv iv pv ps)):W.cell? ⟨h,0,none⟩=some (.pointer (some ⟨g,0,none⟩))∧W.cell? ⟨h+1,0,none⟩=some (.int .i64 (i:Nat)) :=
 ⟨(H.o.kp _ (List.mem_cons_of_mem _ (List.mem_cons_self ..))).1.cell 0,(H.o.kp _ (List.mem_cons_self ..)).1.cell 0⟩
theorem Uu (i:Nat)(cs:Array Value)(a:W.heap.size=h+2)(H:Hid (PZ (xS0 h g i S) B g w W nv iv pv ps)):Hid (PZ (xS h g i cs S) B g w (W.alloc (.cells cs 56)).drew nv iv pv ps):=by
 have h3:=H.o.box (T:=56) (cs:=cs) (by decide);rw [a] at h3
 exact O h3.drew
theorem dB (H:Hid (PZ (xS h g i cs S) B g w W nv iv pv ps)):W.cell? ⟨h,0,none⟩=some (.pointer (some ⟨g,0,none⟩))∧W.cell? ⟨h+1,0,none⟩=some (.int .i64 (i:Nat))∧W.cell? ⟨h+2,0,none⟩=cs[0]? ∧ W.cell? ⟨h+2,1,none⟩=cs[1]? ∧ W.cell? ⟨h+2,2,none⟩=cs[2]? :=
 ⟨(H.o.kp _ (List.mem_cons_of_mem _ (List.mem_cons_of_mem _ (List.mem_cons_self ..)))).1.cell 0,(H.o.kp _ (List.mem_cons_of_mem _ (List.mem_cons_self ..))).1.cell 0,(H.o.kp _ (List.mem_cons_self ..)).1.cell 0,(H.o.kp _ (List.mem_cons_self ..)).1.cell 1,(H.o.kp _ (List.mem_cons_self ..)).1.cell 2⟩
theorem Ja (h g i:Nat)(cs:Array Value)(S:Sz):(h,54,#[.pointer (some ⟨g,0,none⟩)]) ∈ xS h g i cs S:=List.mem_cons_of_mem _ (List.mem_cons_of_mem _ (List.mem_cons_self ..))
theorem Mq (h g i:Nat)(cs:Array Value)(S:Sz):(h+1,3,#[.int .i64 (i:Nat)]) ∈ xS h g i cs S:=List.mem_cons_of_mem _ (List.mem_cons_self ..)
theorem PZ.xe (H:PZ (xS h g i cs S) B g w W nv iv pv ps):PZ S B g w W nv iv pv ps:=H.tl.tl.tl
theorem Va {a:Nat}{args:Array Value}{r:List Pz}(b:Calls Tryz.prog a args W (lW S B g w nv iv (iL (iL ps l) r)))(d:l ≠ []):Calls Tryz.prog a args W (lW S B g w nv iv (iL ps (l ++ cZ true r))):=by
 rw [tJ ps l r d] at b;exact b
theorem PZ.text (H:PZ S B g w W nv iv pv ps){a:Nat}{p:Pz}(e:ps[a]? = some p):∃ b cap,pv=.slice (some ⟨b,0,none⟩) ps.length cap∧W.cell? ⟨b,a * 3,none⟩=some (.string (aG p.text))∧a < ps.length:=by
 have k:a < ps.length:=(amG.1 e).1;obtain⟨A,c,rfl⟩:=dA H.own;obtain⟨b,cap,hv,_⟩:=H.own.form (by omega);injection hv with d
 subst d
 refine⟨b,c,rfl,?_,k⟩
 rw [H.own.cellAt (a * 3) (by omega)];exact vX ps a 0 p _ e rfl
theorem cl1 (H:Hid (PZ S B g w W nv iv pv ps))(a:Nat)(b:a≤1000000):Calls Tryz.prog 81 #[.pointer (some ⟨g,0,none⟩),.int .i64 a] W (lW S B g w nv iv (nK a ps)):=(UY H.o a b).mono fun _ _ h=>pzE h
theorem WM (H:Hid (PZ S B g w W (.slice A n c) iv pv ps))(X:CX w B A Bi n xs its)(K:KX w B g A n c iv xs its f i x)(G:x.1.kind=3)(hf:0 < f)
  (J:ps.length+(bQ ⟨aH xs,its⟩ (aQ ⟨aH xs,its⟩ f) i).length≤1000000) :
  Calls Tryz.prog 88 #[.pointer (some ⟨g,0,none⟩),.int .i64 i] W (lW S B g w (.slice A n c) iv (iL ps (bQ ⟨aH xs,its⟩ (aQ ⟨aH xs,its⟩ f) i))):=by
 have en:=E9 (T:=⟨aH xs,its⟩) (B:=aQ ⟨aH xs,its⟩ f) (i:=i) (by rw [bD its K.hx];exact G)
 try rw [bD its K.hx] at en
 rw [en] at J ⊢
 clear en;have hi:i < n:=by rw [← X.len];exact (amG.1 K.hx).1
 obtain⟨b,o,hA,E⟩:=(X.at_ H.o).nodes (by have:=X.len;omega);have P:=O E.lt;obtain⟨D,kc,k,hkl,I⟩:=X.kids H.o K.hx;obtain⟨m,L⟩:∃ m,m=x.1.kids.length:=⟨_,rfl⟩;subst hA;have y0:(0:Int)≤(i:Int):=by omega
 have y1:(i:Int) < (n:Int):=by omega
 have hg:=H.o.blk.lt;have EB:=O (show kY x=#[.int .u8 3,.string (aG x.1.text),.int .i64 x.1.n,.slice D m kc,.int .i64 x.1.at_] from by unfold kY;rw [G,k,L];rfl);have v:=yR i H;have d:=Uv W g i;have a:=O (Ut W g i);have r:=O E;have xA:=O k;have uU:=O (show x.1.kind=3 from G);have V:=O J;have HX:=O X;have t:=O K;have Y:=O L;have F:=P.o;clear H k I J X K L E;go_in
 go_upto_region 1 with (fail)
 generalize (W.alloc (.cells #[.pointer (some ⟨g,0,none⟩)] 54)).alloc (.cells #[.int .i64 (i:Nat)] 3)=w0 at v d a ⊢
 have Z:w0.cell? ⟨g,0,none⟩=some (.slice (some ⟨b,o,none⟩) n c):=v.o.blk.cell 0;obtain⟨d2,d3⟩:=kQ v;have M:=O d;have ug:g < w0.heap.size:=by omega
 have ub:b < w0.heap.size:=by omega
 have uW:W.heap.size < w0.heap.size:=by omega
 have U:W.heap.size+1 < w0.heap.size:=by omega
 clear d;have k0:w0.cell? ⟨b,o+i * 5,none⟩=some (.int .u8 3):=by have h:=(r.o.below a.o).c0 i x t.o.hx;rw [uU.o] at h;exact h
 have k1:w0.cell? ⟨b,o+i * 5+1,none⟩=some (.string (aG x.1.text)):=(r.o.below a.o).c1 i x t.o.hx;have k2:w0.cell? ⟨b,o+i * 5+2,none⟩=some (.int .i64 x.1.n):=(r.o.below a.o).c2 i x t.o.hx;have k4:w0.cell? ⟨b,o+i * 5+4,none⟩=some (.int .i64 x.1.at_):=(r.o.below a.o).c4 i x t.o.hx;have k3:w0.cell? ⟨b,o+i * 5+3,none⟩=some (.slice D m kc):=by rw [Y.o,← xA.o];exact (r.o.below a.o).c3 i x t.o.hx
 go_region
 have C:=Uu i #[.int .u8 3,.string (aG x.1.text),.int .i64 x.1.n,.slice D m kc,.int .i64 x.1.at_] M.o v;rw [M.o]
 generalize (w0.alloc (.cells #[.int .u8 3,.string (aG x.1.text),.int .i64 x.1.n,.slice D m kc,.int .i64 x.1.at_] 56)).drew=jD at C ⊢
 clear F Z k0 k1 k2 k3 k4 d2 d3 v uW U ug ub M a r P y0 y1;obtain⟨c2,c3,u,Q,R⟩:=dB C;go_wp2_with fail;refine (Cy C x.1.text (i:Int) (by have:=V.o;simp [au] at this;omega)).mono ?_;rintro e w1⟨yK,rfl,N⟩;clear c2 c3 u Q R C;obtain⟨c2,c3,u,Q,R⟩:=dB N;go_wp2_with fail;go_end0
 exact⟨_,rfl,O (by have h:=N.o.xe;simpa [List.append_assoc] using h)⟩
theorem aaP (H:Hid (PZ S B g w W (.slice A n c) iv pv ps))(X:CX w B A Bi n xs its)(K:KX w B g A n c iv xs its f i x)(U:x.1.kind=20)(hf:0 < f)(hm1:x.1.kids.length=2)(E:∀ j,j < x.1.kids.length→KE w B g A n c iv xs its f x j)
  (Y:ps.length+(bQ ⟨aH xs,its⟩ (aQ ⟨aH xs,its⟩ f) i).length≤1000000) :
  Calls Tryz.prog 88 #[.pointer (some ⟨g,0,none⟩),.int .i64 i] W (lW S B g w (.slice A n c) iv (iL ps (bQ ⟨aH xs,its⟩ (aQ ⟨aH xs,its⟩ f) i))):=by
 have en:=AX (T:=⟨aH xs,its⟩) (B:=aQ ⟨aH xs,its⟩ f) (i:=i) (by rw [bD its K.hx];exact U)
 try rw [bD its K.hx] at en
 rw [en] at Y ⊢
 clear en;have hi:i < n:=by rw [← X.len];exact (amG.1 K.hx).1
 obtain⟨b,o,hA,Q⟩:=(X.at_ H.o).nodes (by have:=X.len;omega);have HB:=O Q.lt;obtain⟨I,kc,v,hkl,V⟩:=X.kids H.o K.hx;obtain⟨m,Z⟩:∃ m,m=x.1.kids.length:=⟨_,rfl⟩;subst hA;have y0:(0:Int)≤(i:Int):=by omega
 have y1:(i:Int) < (n:Int):=by omega
 have hg:=H.o.blk.lt;have EB:=O (show kY x=#[.int .u8 20,.string (aG x.1.text),.int .i64 x.1.n,.slice I m kc,.int .i64 x.1.at_] from by unfold kY;rw [U,v,Z];rfl);have F:=yR i H;have u:=Uv W g i;have t:=O (Ut W g i);have D:=O Q;have xA:=O v;have uU:=O (show x.1.kind=20 from U);have C:=O Y;have HX:=O X;have r:=O K;have HM:=O Z;have HE:=O E;have R:=HB.o;clear H v V Y X K Z Q E;go_in
 go_upto_region 1 with (fail)
 generalize (W.alloc (.cells #[.pointer (some ⟨g,0,none⟩)] 54)).alloc (.cells #[.int .i64 (i:Nat)] 3)=w0 at F u t ⊢
 have c0:w0.cell? ⟨g,0,none⟩=some (.slice (some ⟨b,o,none⟩) n c):=F.o.blk.cell 0;obtain⟨d2,d3⟩:=kQ F;have mP:=O u;have ug:g < w0.heap.size:=by omega
 have ub:b < w0.heap.size:=by omega
 have uW:W.heap.size < w0.heap.size:=by omega
 have Cv:W.heap.size+1 < w0.heap.size:=by omega
 clear u;have k0:w0.cell? ⟨b,o+i * 5,none⟩=some (.int .u8 20):=by have h:=(D.o.below t.o).c0 i x r.o.hx;rw [uU.o] at h;exact h
 have k1:w0.cell? ⟨b,o+i * 5+1,none⟩=some (.string (aG x.1.text)):=(D.o.below t.o).c1 i x r.o.hx;have k2:w0.cell? ⟨b,o+i * 5+2,none⟩=some (.int .i64 x.1.n):=(D.o.below t.o).c2 i x r.o.hx;have k4:w0.cell? ⟨b,o+i * 5+4,none⟩=some (.int .i64 x.1.at_):=(D.o.below t.o).c4 i x r.o.hx;have k3:w0.cell? ⟨b,o+i * 5+3,none⟩=some (.slice I m kc):=by rw [HM.o,← xA.o];exact (D.o.below t.o).c3 i x r.o.hx
 go_region
 have G:=Uu i #[.int .u8 20,.string (aG x.1.text),.int .i64 x.1.n,.slice I m kc,.int .i64 x.1.at_] mP.o F;rw [mP.o]
 generalize (w0.alloc (.cells #[.int .u8 20,.string (aG x.1.text),.int .i64 x.1.n,.slice I m kc,.int .i64 x.1.at_] 56)).drew=jD at G ⊢
 clear R c0 k0 k1 k2 k3 k4 d2 d3 F uW Cv ug ub mP t D HB y0 y1;obtain⟨c2,c3,a,d,k⟩:=dB G;go_wp2_with fail;refine (Cy G [108,101,116] (i:Int) (by have:=C.o;simp [au] at this;omega)).mono ?_;rintro e w1⟨yK,rfl,J⟩;clear c2 c3 a d k G;obtain⟨c2,c3,a,d,k⟩:=dB J;go_wp2_with fail;refine (I6 J x.1.text (-1) (by simp) (by have:=C.o;simp [au] at this ⊢;omega)).mono ?_;rintro e w2⟨nC,rfl,L⟩;clear c2 c3 a d k J;obtain⟨c2,c3,a,d,k⟩:=dB L;go_wp2_with fail;refine (I6 L [61] (-1) (by simp) (by have:=C.o;simp [au] at this ⊢;omega)).mono ?_;rintro e w3⟨uY,rfl,M⟩;clear c2 c3 a d k L;obtain⟨c2,c3,a,d,k⟩:=dB M;go_wp2_with fail;refine (Va (U_ M HX.o r.o (Ja _ _ _ _ _) (Mq _ _ _ _ _) (j:=0) (by omega) (HE.o 0 (by omega)) (by have:=C.o;rw [d_];simp [au] at this ⊢;omega)) (by simp)).mono ?_;rintro e w4⟨Fh,rfl,N⟩;clear c2 c3 a d k M;obtain⟨c2,c3,a,d,k⟩:=dB N;go_wp2_with fail;refine (I6 N [105,110] (-1) (by simp) (by have:=C.o;simp [au] at this ⊢;omega)).mono ?_;rintro e w5⟨pv5,rfl,P⟩;clear c2 c3 a d k N;obtain⟨c2,c3,a,d,k⟩:=dB P;go_wp2_with fail;refine (Va (U_ P HX.o r.o (Ja _ _ _ _ _) (Mq _ _ _ _ _) (j:=1) (by omega) (HE.o 1 (by omega)) (by have:=C.o;rw [d_];simp [au] at this ⊢;omega)) (by simp)).mono ?_;rintro e w6⟨pv6,rfl,H6⟩;clear c2 c3 a d k P;obtain⟨c2,c3,a,d,k⟩:=dB H6;go_wp2_with fail;go_end0
 exact⟨_,rfl,O (by have h:=H6.o.xe;simpa [List.append_assoc] using h)⟩
theorem WO (H:Hid (PZ S B g w W (.slice A n c) iv pv ps))(X:CX w B A Bi n xs its)(K:KX w B g A n c iv xs its f i x)(hk:x.1.kind ≠ 1∧x.1.kind ≠ 2∧x.1.kind ≠ 3∧x.1.kind ≠ 4∧x.1.kind ≠ 5∧x.1.kind ≠ 19∧x.1.kind ≠ 20)(hf:0 < f)(R:∀ (S:Sz) (W:World) (pv:Value) (ps:List Pz) (b2 b3:Nat),(b2,54,#[.pointer (some ⟨g,0,none⟩)]) ∈ S→(b3,3,#[.int .i64 (i:Nat)]) ∈ S→Hid (PZ S B g w W (.slice A n c) iv pv ps)→ps.length+(bQ ⟨aH xs,its⟩ (aQ ⟨aH xs,its⟩ f) i).length≤1000000→Calls Tryz.prog 124 #[.pointer (some ⟨g,0,none⟩),.int .i64 i,.agg (kY x),Gp b2 b3] W (lW S B g w (.slice A n c) iv (iL ps (bQ ⟨aH xs,its⟩ (aQ ⟨aH xs,its⟩ f) i))))
  (V:ps.length+(bQ ⟨aH xs,its⟩ (aQ ⟨aH xs,its⟩ f) i).length≤1000000) :
  Calls Tryz.prog 88 #[.pointer (some ⟨g,0,none⟩),.int .i64 i] W (lW S B g w (.slice A n c) iv (iL ps (bQ ⟨aH xs,its⟩ (aQ ⟨aH xs,its⟩ f) i))):=by
 have hi:i < n:=by rw [← X.len];exact (amG.1 K.hx).1
 obtain⟨b,o,hA,G⟩:=(X.at_ H.o).nodes (by have:=X.len;omega);have P:=O G.lt;obtain⟨F,kc,t,hkl,J⟩:=X.kids H.o K.hx;obtain⟨m,L⟩:∃ m,m=x.1.kids.length:=⟨_,rfl⟩;obtain⟨kd,a⟩:∃ k,k=x.1.kind:=⟨_,rfl⟩;rw [← a] at hk
 subst hA;have y0:(0:Int)≤(i:Int):=by omega
 have y1:(i:Int) < (n:Int):=by omega
 have hg:=H.o.blk.lt;have Z:=O (show kY x=#[.int .u8 (kd:Nat),.string (aG x.1.text),.int .i64 x.1.n,.slice F m kc,.int .i64 x.1.at_] from by unfold kY;rw [a,t,L]);have E:=yR i H;have r:=Uv W g i;have d:=O (Ut W g i);have u:=O G;have xA:=O t;have uU:=O (show x.1.kind=kd from a.symm);have HL:=O V;have HX:=O X;have C:=O K;have HM:=O L;have HR:=O R;have I:=P.o;clear H t J V X K L G R a;have z1:((kd:Int) == 1)=false:=by simp;omega
 have z2:((kd:Int) == 2)=false:=by simp;omega
 have z3:((kd:Int) == 3)=false:=by simp;omega
 have z4:((kd:Int) == 4)=false:=by simp;omega
 have z5:((kd:Int) == 5)=false:=by simp;omega
 have z19:((kd:Int) == 19)=false:=by simp;omega
 have z20:((kd:Int) == 20)=false:=by simp;omega
 go_in
 go_upto_region 1 with (fail)
 generalize (W.alloc (.cells #[.pointer (some ⟨g,0,none⟩)] 54)).alloc (.cells #[.int .i64 (i:Nat)] 3)=w0 at E r d ⊢
 have c0:w0.cell? ⟨g,0,none⟩=some (.slice (some ⟨b,o,none⟩) n c):=E.o.blk.cell 0;obtain⟨d2,d3⟩:=kQ E;have M:=O r;have ug:g < w0.heap.size:=by omega
 have ub:b < w0.heap.size:=by omega
 have uW:W.heap.size < w0.heap.size:=by omega
 have Y:W.heap.size+1 < w0.heap.size:=by omega
 clear r;have k0:w0.cell? ⟨b,o+i * 5,none⟩=some (.int .u8 (kd:Nat)):=by have h:=(u.o.below d.o).c0 i x C.o.hx;rw [uU.o] at h;exact h
 have k1:w0.cell? ⟨b,o+i * 5+1,none⟩=some (.string (aG x.1.text)):=(u.o.below d.o).c1 i x C.o.hx;have k2:w0.cell? ⟨b,o+i * 5+2,none⟩=some (.int .i64 x.1.n):=(u.o.below d.o).c2 i x C.o.hx;have k4:w0.cell? ⟨b,o+i * 5+4,none⟩=some (.int .i64 x.1.at_):=(u.o.below d.o).c4 i x C.o.hx;have k3:w0.cell? ⟨b,o+i * 5+3,none⟩=some (.slice F m kc):=by rw [HM.o,← xA.o];exact (u.o.below d.o).c3 i x C.o.hx
 go_region
 have v:=Uu i #[.int .u8 (kd:Nat),.string (aG x.1.text),.int .i64 x.1.n,.slice F m kc,.int .i64 x.1.at_] M.o E;rw [M.o]
 generalize (w0.alloc (.cells #[.int .u8 (kd:Nat),.string (aG x.1.text),.int .i64 x.1.n,.slice F m kc,.int .i64 x.1.at_] 56)).drew=jD at v ⊢
 clear I c0 k0 k1 k2 k3 k4 d2 d3 E uW Y ug ub M d u P y0 y1;obtain⟨c2,c3,D,T,U⟩:=dB v;have jK:_=_:=(v.o.kp _ (List.mem_cons_self ..)).1.cell 3;have kS:_=_:=(v.o.kp _ (List.mem_cons_self ..)).1.cell 4;simp only at jK kS
 have Q:=O (HR.o _ _ _ _ _ _ (Ja _ _ _ _ _) (Mq _ _ _ _ _) v HL.o);rw [Z.o] at Q
 go_wp2_with fail;refine (Q.o).mono ?_;rintro e w1⟨yK,rfl,N⟩;clear c2 c3 D T U v;obtain⟨c2,c3,D,T,U⟩:=dB N;go_wp2_with fail;go_end0
 exact⟨_,rfl,O (by have h:=N.o.xe;exact h)⟩
end
end
