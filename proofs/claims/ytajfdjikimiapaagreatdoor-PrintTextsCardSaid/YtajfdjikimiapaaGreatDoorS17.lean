/-
  A part of the proof.
-/
import Derived.Test.YtajfdjikimiapaaGreatDoorS16
set_option linter.all false
set_option maxRecDepth 100000
set_option maxHeartbeats 4000000
set_option linter.all false
namespace Go.Proofs.YtajfdjikimiapaaGreatDoor
section
open Go.RowKit Mist
attribute [local go_sem] au aN aV aM aG
section
variable {S:Sz} {B g n c f i j q b2 b3 b4 b5 b6 h:Nat} {cs:Array Value} {w W:World} {A Bi:Option Addr} {nv iv pv:Value} {ps l:List Pz} {xs:List NV} {its:List Int} {x y:NV}
theorem abb (H:Hid (PZ S B g w W (.slice A n c) iv pv ps))(X:CX w B A Bi n xs its)(E:xs[i]? = some x)(h4:(b4,56,#[.pointer (some ⟨g,0,none⟩)]) ∈ S)(h6:(b6,39,j_ x) ∈ S)
  (t:x.1.kids[j]? = some ((q:Nat):Int)) (F:MC 59 w B g A n c iv ⟨aj xs,its⟩ f q) (D:ps.length+(ah ⟨aj xs,its⟩ f q).length≤1000000) :
  Calls Tryz.prog 58 #[.int .i64 j,.pointer (some ⟨b4,0,none⟩),.pointer (some ⟨b6,0,none⟩)] W (kS S B g w (.slice A n c) iv (gH ps (ah ⟨aj xs,its⟩ f q))):=by
 have c4:=(H.o.kp _ h4).1.cell 0;obtain⟨N,kc,k,r,d⟩:=X.kids H.o E;have K:j < x.1.kids.length:=(aiq.1 t).1;have C:W.cell? ⟨b6,3,none⟩=some x.2:=(H.o.kp _ h6).1.cell 3;obtain⟨kb,P,a,L,b⟩:=d.ex (by omega);have kq:=b j _ t;rw [k,a] at C
 simp only at c4
 have R:(0:Int)≤(j:Int):=by omega
 generalize x.1.kids.length=m at *
 have T:(j:Int) < (m:Int):=by omega
 have G:=O F;have I:=O D;clear D F X d k r b E t a;go_in
 go_still_tail 6,(by kernel_rfl)
 change wpList _ _ _ _ _ W.drew
 have u:=O H.o.drew
 generalize W.drew=w1 at u ⊢
 clear H c4 C kq;go_wp2_with fail;refine (G.o S _ pv ps u I.o).mono ?_;rintro e Q⟨M,rfl,J⟩;go_wp2_with fail;go_end0
 exact⟨M,rfl,J⟩
theorem adg (H:Hid (PZ S B g w W (.slice A n c) iv pv ps))(X:CX w B A Bi n xs its)(E:xs[i]? = some x)(h4:(b4,56,#[.pointer (some ⟨g,0,none⟩)]) ∈ S)(h6:(b6,39,j_ x) ∈ S)
  (t:x.1.kids[j]? = some ((q:Nat):Int)) (F:MC 59 w B g A n c iv ⟨aj xs,its⟩ f q) (D:ps.length+(ah ⟨aj xs,its⟩ f q).length≤1000000) :
  Calls Tryz.prog 109 #[.int .i64 j,.pointer (some ⟨b4,0,none⟩),.pointer (some ⟨b6,0,none⟩)] W (kS S B g w (.slice A n c) iv (gH ps (ah ⟨aj xs,its⟩ f q))):=by
 have c4:=(H.o.kp _ h4).1.cell 0;obtain⟨N,kc,k,r,d⟩:=X.kids H.o E;have K:j < x.1.kids.length:=(aiq.1 t).1;have C:W.cell? ⟨b6,3,none⟩=some x.2:=(H.o.kp _ h6).1.cell 3;obtain⟨kb,P,a,L,b⟩:=d.ex (by omega);have kq:=b j _ t;rw [k,a] at C
 simp only at c4
 have R:(0:Int)≤(j:Int):=by omega
 generalize x.1.kids.length=m at *
 have T:(j:Int) < (m:Int):=by omega
 have G:=O F;have I:=O D;clear D F X d k r b E t a;go_in
 go_still_tail 6,(by kernel_rfl)
 change wpList _ _ _ _ _ W.drew
 have u:=O H.o.drew
 generalize W.drew=w1 at u ⊢
 clear H c4 C kq;go_wp2_with fail;refine (G.o S _ pv ps u I.o).mono ?_;rintro e Q⟨M,rfl,J⟩;go_wp2_with fail;go_end0
 exact⟨M,rfl,J⟩
theorem CX.kq (X:CX w B A Bi n xs its)(H:PZ S B g w W nv iv pv ps)(C:xs[i]? = some x){kb o m kc:Nat}(h2:x.2=.slice (some ⟨kb,o,none⟩) m kc)(k:x.1.kids[j]? = some ((q:Nat):Int)):W.cell? ⟨kb,o+j,none⟩=some (.int .i64 (q:Int)):=by
 obtain⟨G,E,b,u,e⟩:=X.kids H C;rw [h2] at b
 injection b with r I J
 obtain⟨D,F,a,t,d⟩:=e.ex (by have:=(aiq.1 k).1;omega);rw [← r] at a
 injection a with a
 injection a with h3 h4
 rw [h3,h4];exact d j _ k
def PK (w:World)(B g:Nat)(A:Option Addr)(n c:Nat)(iv:Value)(xs:List NV)(its:List Int)(f m:Nat)(x:NV):Prop:=∀ j q,j < m→x.1.kids[j]? = some ((q:Nat):Int)→MC 59 w B g A n c iv ⟨aj xs,its⟩ f q
abbrev fS (h g:Nat) (cs:Array Value) (m:Nat) (S:Sz):Sz:=(h+2,3,#[.int .i64 (m:Nat)]) :: (h+1,39,cs) :: (h,56,#[.pointer (some ⟨g,0,none⟩)]) :: S
theorem fsH (cs:Array Value)(m:Nat)(H:Hid (PZ S B g w W nv iv pv ps)):Hid (PZ (fS W.heap.size g cs m S) B g w (((W.alloc (.cells #[.pointer (some ⟨g,0,none⟩)] 56)).alloc (.cells cs 39)).alloc (.cells #[.int .i64 (m:Nat)] 3)) nv iv pv ps):=by
 have a:(W.alloc (.cells #[.pointer (some ⟨g,0,none⟩)] 56)).heap.size=W.heap.size+1:=by simp
 have b:((W.alloc (.cells #[.pointer (some ⟨g,0,none⟩)] 56)).alloc (.cells cs 39)).heap.size=W.heap.size+2:=by simp
 have h3:=((H.o.box (T:=56) (cs:=#[.pointer (some ⟨g,0,none⟩)]) (by decide)).box (T:=39) (cs:=cs) (by decide)).box (T:=3) (cs:=#[.int .i64 (m:Nat)]) (by decide);rw [a,b] at h3
 exact O h3
theorem jK {m:Nat}(H:Hid (PZ (fS h g cs m S) B g w W nv iv pv ps)):W.cell? ⟨h,0,none⟩=some (.pointer (some ⟨g,0,none⟩))∧W.cell? ⟨h+1,2,none⟩=cs[2]? ∧ W.cell? ⟨h+1,3,none⟩=cs[3]? ∧ W.cell? ⟨h+2,0,none⟩=some (.int .i64 (m:Nat)) :=
 ⟨(H.o.kp _ (List.mem_cons_of_mem _ (List.mem_cons_of_mem _ (List.mem_cons_self ..)))).1.cell 0,(H.o.kp _ (List.mem_cons_of_mem _ (List.mem_cons_self ..))).1.cell 2,(H.o.kp _ (List.mem_cons_of_mem _ (List.mem_cons_self ..))).1.cell 3,(H.o.kp _ (List.mem_cons_self ..)).1.cell 0⟩
theorem fl1 {m:Nat}(H:Hid (PZ S B g w W (.slice A n c) iv pv ps))(X:CX w B A Bi n xs its)(K:KX w B g A n c iv xs its f i x)(R:¬ (4≤x.1.kind∧x.1.kind≤18)∧x.1.kind ≠ 22∧x.1.kind ≠ 23)(h4:(b4,56,#[.pointer (some ⟨g,0,none⟩)]) ∈ S)(h6:(b6,39,j_ x) ∈ S)(h5:(b5,3,#[.int .i64 (m:Nat)]) ∈ S)(G:0 < f)
  (T:m≤x.1.kids.length) (F:PK w B g A n c iv xs its f m x) (r:ps.length+(dD ⟨aj xs,its⟩ (ah ⟨aj xs,its⟩ f) i m).length < 1000000) :
  Calls Tryz.prog 108 #[.pointer (some ⟨b4,0,none⟩),.pointer (some ⟨b5,0,none⟩),.pointer (some ⟨b6,0,none⟩)] W (kS S B g w (.slice A n c) iv (gH ps (dD ⟨aj xs,its⟩ (ah ⟨aj xs,its⟩ f) i m))):=by
 have c4:=(H.o.kp _ h4).1.cell 0;have c5:=(H.o.kp _ h5).1.cell 0;simp only at c4 c5
 obtain⟨N,kc,d,J,b⟩:=X.kids H.o K.hx
 have u:=O (ls1 H 109 #[.pointer (some ⟨b4,0,none⟩),.pointer (some ⟨b6,0,none⟩)] (bM ⟨aj xs,its⟩ (ah ⟨aj xs,its⟩ f) i) m (K.ne G 0 (.inr rfl)) (by omega) r (fun j D=>by kernel_rfl)
  (fun j D M U I t h=>by
   obtain⟨q,y,a,P,Q⟩:=K.k j (by omega);have E:bM ⟨aj xs,its⟩ (ah ⟨aj xs,its⟩ f) i j=ah ⟨aj xs,its⟩ f q:=kW (by rw [aY its K.hx];omega) (by rw [aY its K.hx];exact a);rw [E] at t ⊢
   exact adg h X K.hx h4 h6 a (F j q I a) t))
 clear r X K F d b;go_in
 go_wp2_with fail;refine u.o.mono ?_;rintro e V⟨L,rfl,C⟩;go_wp2_with fail;go_end0
 exact⟨L,rfl,C⟩
theorem acK {m:Nat}(H:Hid (PZ S B g w W (.slice A n c) iv pv (gH ps l)))(hl0:l ≠ [])(X:CX w B A Bi n xs its)(K:KX w B g A n c iv xs its f i x)(hk:x.1.kind=42)(hm:x.1.kids.length=m+2)(hf:0 < f)(F:PK w B g A n c iv xs its f m x)
  (hq:x.1.kids[m]? = some ((q:Nat):Int)) (G:MC 37 w B g A n c iv ⟨aj xs,its⟩ f q) (E:KE w B g A n c iv xs its f x (m+1)) (n0:-1000000≤x.1.n) (n1:x.1.n≤1000000) (hs:¬ 0 < x.1.n)
  (hl:ps.length+(l ++ tz [40] (-1) :: (aH false (dD ⟨aj xs,its⟩ (ah ⟨aj xs,its⟩ f) i m) ++ tz [41] (-1) :: tz [58] (-1) :: (aH true (bM ⟨aj xs,its⟩ (ah ⟨aj xs,its⟩ f) i m) ++ (([]:List Pz) ++ lz [61] (-1) :: aH true (bM ⟨aj xs,its⟩ (ah ⟨aj xs,its⟩ f) i (m+1)))))).length+1≤1000000) :
  Calls Tryz.prog 60 #[.pointer (some ⟨g,0,none⟩),.int .i64 i,.agg (j_ x)] W (kS S B g w (.slice A n c) iv (gH ps (l ++ tz [40] (-1) :: (aH false (dD ⟨aj xs,its⟩ (ah ⟨aj xs,its⟩ f) i m) ++ tz [41] (-1) :: tz [58] (-1) :: (aH true (bM ⟨aj xs,its⟩ (ah ⟨aj xs,its⟩ f) i m) ++ (([]:List Pz) ++ lz [61] (-1) :: aH true (bM ⟨aj xs,its⟩ (ah ⟨aj xs,its⟩ f) i (m+1)))))))):=by
 obtain⟨Ka,kc,I,hkl,D⟩:=X.kids H.o K.hx;obtain⟨kb,ko,u,hkb,hkc⟩:=D.ex (by omega);obtain⟨M,Z⟩:∃ M,M=x.1.kids.length:=⟨_,rfl⟩;have C:M=m+2:=by rw [Z,hm]
 have r:x.2=.slice (some ⟨kb,ko,none⟩) M kc:=by rw [I,u,Z]
 have Y:j_ x=#[.int .u8 42,.string (aU x.1.text),.int .i64 x.1.n,.slice (some ⟨kb,ko,none⟩) M kc,.int .i64 x.1.at_]:=by unfold j_;rw [hk,r];rfl
 have EB:=O Y;have HS:=fsH #[.int .u8 42,.string (aU x.1.text),.int .i64 x.1.n,.slice (some ⟨kb,ko,none⟩) M kc,.int .i64 x.1.at_] m H;have ws:wrap64 ((M:Int) - 2)=(m:Int):=by unfold wrap64;omega
 have t:bM ⟨aj xs,its⟩ (ah ⟨aj xs,its⟩ f) i m=ah ⟨aj xs,its⟩ f q:=kW (by rw [aY its K.hx];omega) (by rw [aY its K.hx];exact hq);rw [t] at hl ⊢
 have k:=O hl;have V:=O X;have U:=O K;have HF:=O F;have HQ:=O hq;have HG:=O G;have HE:=O E;have N0:=O n0;have N1:=O n1;have Fe:=O r;have rW:=O C;have E9:=O hm;have nP:=O hk;have zs:¬ 0 < x.1.n:=hs;have hmw:m≤x.1.kids.length:=by omega
 rw [Y];clear hl X K F hq G E n0 n1 r I D hkc u hkb H Z C hm Y t hk hs;go_in
 go_wp2_with fail;refine (uO HS [40] (-1) hl0 (by have:=k.o;simp [ak] at this ⊢;omega)).mono ?_;rintro e w1⟨vP,rfl,N⟩;clear HS;obtain⟨c4,d,a,b⟩:=jK N;go_wp2_with fail;refine (in2 N 108 #[.pointer (some ⟨W.heap.size,0,none⟩),.pointer (some ⟨W.heap.size+2,0,none⟩),.pointer (some ⟨W.heap.size+1,0,none⟩)] (dD ⟨aj xs,its⟩ (ah ⟨aj xs,its⟩ f) i m) (by simp) (by have:=k.o;simp [ak] at this ⊢;omega) (fun W'=>by kernel_rfl) (fun W' pv' H'=>fl1 H' V.o U.o (by rw [nP.o];omega) (List.mem_cons_of_mem _ (List.mem_cons_of_mem _ (List.mem_cons_self ..))) (by rw [EB.o];exact List.mem_cons_of_mem _ (List.mem_cons_self ..)) (List.mem_cons_self ..) hf hmw HF.o (by have:=k.o;rw [dR];simp [ak] at this ⊢;omega))).mono ?_;rintro e w2⟨l8,rfl,P⟩;clear N c4 d a b;obtain⟨c4,d,a,b⟩:=jK P;go_wp2_with fail;refine (uO P [41] (-1) (by simp) (by have:=k.o;simp [ak] at this ⊢;omega)).mono ?_;rintro e w3⟨sw,rfl,Q⟩;clear P c4 d a b;obtain⟨c4,d,a,b⟩:=jK Q;go_wp2_with fail;refine (uO Q [58] (-1) (by simp) (by have:=k.o;simp [ak] at this ⊢;omega)).mono ?_;rintro e w4⟨B_,rfl,J⟩;clear Q c4 d a b;obtain⟨c4,d,a,b⟩:=jK J;have kq:=V.o.kq J.o U.o.hx Fe.o HQ.o;have y0:(0:Int)≤(m:Int):=by omega
 have y1:(m:Int) < (M:Int):=by have:=rW.o;omega
 go_upto_region 6 with (fail)
 go_still_tail 6,(by kernel_rfl)
 change wpList _ _ _ _ _ w4.drew
 have L:=O J.o.drew
 generalize w4.drew=wd at L ⊢
 clear kq y0 y1;clear J c4 d a b;obtain⟨c4,d,a,b⟩:=jK L;go_wp2_with fail;refine (Qi (HG.o _ _ _ _ L (by have:=k.o;rw [dR];simp [ak] at this ⊢;omega)) (by simp)).mono ?_;rintro e w5⟨pv5,rfl,R⟩;clear L c4 d a b;obtain⟨c4,d,a,b⟩:=jK R;go_wp2_with fail;refine (EO R [61] (-1) (by simp) (by have:=k.o;simp [ak] at this ⊢;omega)).mono ?_;rintro e w6⟨pv6,rfl,T⟩;clear R c4 d a b;obtain⟨c4,d,a,b⟩:=jK T;have wm:wrap64 ((m:Int)+1)=((m+1:Nat):Int):=by have:=rW.o;have:=E9.o;unfold wrap64;omega
 go_wp2_with fail;refine (Qi (kd1 T V.o U.o (j:=m+1) (by have:=E9.o;omega) HE.o (by have:=k.o;rw [dR];simp [ak] at this ⊢;omega)) (by simp)).mono ?_;rintro e w7⟨pv7,rfl,H7⟩;clear T c4 d a b;obtain⟨c4,d,a,b⟩:=jK H7;go_wp2_with fail;go_end0
 exact⟨_,rfl,O (by have h:=H7.o.tl.tl.tl;simpa [List.append_assoc] using h)⟩
theorem acL {m:Nat}(H:Hid (PZ S B g w W (.slice A n c) iv pv (gH ps l)))(hl0:l ≠ [])(X:CX w B A Bi n xs its)(K:KX w B g A n c iv xs its f i x)(hk:x.1.kind=42)(hm:x.1.kids.length=m+2)(hf:0 < f)(F:PK w B g A n c iv xs its f m x)
  (hq:x.1.kids[m]? = some ((q:Nat):Int)) (G:MC 37 w B g A n c iv ⟨aj xs,its⟩ f q) (E:KE w B g A n c iv xs its f x (m+1)) (n0:-1000000≤x.1.n) (n1:x.1.n≤1000000) (hs:0 < x.1.n)
  (hl:ps.length+(l ++ tz [40] (-1) :: (aH false (dD ⟨aj xs,its⟩ (ah ⟨aj xs,its⟩ f) i m) ++ tz [41] (-1) :: tz [58] (-1) :: (aH true (bM ⟨aj xs,its⟩ (ah ⟨aj xs,its⟩ f) i m) ++ (([lz [117,112,116,111] (-1),lz (Go.Lib.itoa x.1.n) (-1)]:List Pz) ++ lz [61] (-1) :: aH true (bM ⟨aj xs,its⟩ (ah ⟨aj xs,its⟩ f) i (m+1)))))).length+1≤1000000) :
  Calls Tryz.prog 60 #[.pointer (some ⟨g,0,none⟩),.int .i64 i,.agg (j_ x)] W (kS S B g w (.slice A n c) iv (gH ps (l ++ tz [40] (-1) :: (aH false (dD ⟨aj xs,its⟩ (ah ⟨aj xs,its⟩ f) i m) ++ tz [41] (-1) :: tz [58] (-1) :: (aH true (bM ⟨aj xs,its⟩ (ah ⟨aj xs,its⟩ f) i m) ++ (([lz [117,112,116,111] (-1),lz (Go.Lib.itoa x.1.n) (-1)]:List Pz) ++ lz [61] (-1) :: aH true (bM ⟨aj xs,its⟩ (ah ⟨aj xs,its⟩ f) i (m+1)))))))):=by
 obtain⟨Ka,kc,Q,hkl,P⟩:=X.kids H.o K.hx;obtain⟨kb,V,L,hkb,hkc⟩:=P.ex (by omega);obtain⟨M,hM⟩:∃ M,M=x.1.kids.length:=⟨_,rfl⟩;have N:M=m+2:=by rw [hM,hm]
 have t:x.2=.slice (some ⟨kb,V,none⟩) M kc:=by rw [Q,L,hM]
 have eb:j_ x=#[.int .u8 42,.string (aU x.1.text),.int .i64 x.1.n,.slice (some ⟨kb,V,none⟩) M kc,.int .i64 x.1.at_]:=by unfold j_;rw [hk,t];rfl
 have EB:=O eb;have HS:=fsH #[.int .u8 42,.string (aU x.1.text),.int .i64 x.1.n,.slice (some ⟨kb,V,none⟩) M kc,.int .i64 x.1.at_] m H;have ws:wrap64 ((M:Int) - 2)=(m:Int):=by unfold wrap64;omega
 have J:bM ⟨aj xs,its⟩ (ah ⟨aj xs,its⟩ f) i m=ah ⟨aj xs,its⟩ f q:=kW (by rw [aY its K.hx];omega) (by rw [aY its K.hx];exact hq);rw [J] at hl ⊢
 have r:=O hl;have C:=O X;have HK:=O K;have HF:=O F;have HQ:=O hq;have HG:=O G;have HE:=O E;have N0:=O n0;have N1:=O n1;have Fe:=O t;have rW:=O N;have E9:=O hm;have nP:=O hk;have zs:0 < x.1.n:=hs;have hmw:m≤x.1.kids.length:=by omega
 rw [eb];clear hl X K F hq G E n0 n1 t Q P hkc L hkb H hM N hm eb J hk hs;go_in
 go_wp2_with fail;refine (uO HS [40] (-1) hl0 (by have:=r.o;simp [ak] at this ⊢;omega)).mono ?_;rintro e w1⟨vP,rfl,Y⟩;clear HS;obtain⟨c4,k,a,d⟩:=jK Y;go_wp2_with fail;refine (in2 Y 108 #[.pointer (some ⟨W.heap.size,0,none⟩),.pointer (some ⟨W.heap.size+2,0,none⟩),.pointer (some ⟨W.heap.size+1,0,none⟩)] (dD ⟨aj xs,its⟩ (ah ⟨aj xs,its⟩ f) i m) (by simp) (by have:=r.o;simp [ak] at this ⊢;omega) (fun W'=>by kernel_rfl) (fun W' pv' H'=>fl1 H' C.o HK.o (by rw [nP.o];omega) (List.mem_cons_of_mem _ (List.mem_cons_of_mem _ (List.mem_cons_self ..))) (by rw [EB.o];exact List.mem_cons_of_mem _ (List.mem_cons_self ..)) (List.mem_cons_self ..) hf hmw HF.o (by have:=r.o;rw [dR];simp [ak] at this ⊢;omega))).mono ?_;rintro e w2⟨l8,rfl,Z⟩;clear Y c4 k a d;obtain⟨c4,k,a,d⟩:=jK Z;go_wp2_with fail;refine (uO Z [41] (-1) (by simp) (by have:=r.o;simp [ak] at this ⊢;omega)).mono ?_;rintro e w3⟨sw,rfl,H3⟩;clear Z c4 k a d;obtain⟨c4,k,a,d⟩:=jK H3;go_wp2_with fail;refine (uO H3 [58] (-1) (by simp) (by have:=r.o;simp [ak] at this ⊢;omega)).mono ?_;rintro e w4⟨B_,rfl,R⟩;clear H3 c4 k a d;obtain⟨c4,k,a,d⟩:=jK R;have kq:=C.o.kq R.o HK.o.hx Fe.o HQ.o;have y0:(0:Int)≤(m:Int):=by omega
 have y1:(m:Int) < (M:Int):=by have:=rW.o;omega
 go_upto_region 6 with (fail)
 go_still_tail 6,(by kernel_rfl)
 change wpList _ _ _ _ _ w4.drew
 have T:=O R.o.drew
 generalize w4.drew=wd at T ⊢
 clear kq y0 y1;clear R c4 k a d;obtain⟨c4,k,a,d⟩:=jK T;go_wp2_with fail;refine (Qi (HG.o _ _ _ _ T (by have:=r.o;rw [dR];simp [ak] at this ⊢;omega)) (by simp)).mono ?_;rintro e w5⟨pv5,rfl,H5⟩;clear T c4 k a d;obtain⟨c4,k,a,d⟩:=jK H5;go_wp2_with fail;refine (EO H5 [117,112,116,111] (-1) (by simp) (by have:=r.o;simp [ak] at this ⊢;omega)).mono ?_;rintro e w6⟨pv6,rfl,D⟩;clear H5 c4 k a d;obtain⟨c4,k,a,d⟩:=jK D;have I:=O fun (W2:World) (U:Below w6.heap.size w6 W2)=>vH C.o.pow (D.o.IU.mono C.o.b) (Nat.le_trans C.o.b D.o.lw) N0.o N1.o U
 go_upto_region 9 with (fail)
 go_region_held3 (fun w'=>w'.cell? ⟨W.heap.size,0,none⟩=some (.pointer (some ⟨g,0,none⟩))∧w'.cell? ⟨W.heap.size+1,2,none⟩=some (.int .i64 x.1.n)) (first | go_keep|(go_split_ands;refine⟨?_,?_⟩ <;> assumption))
  ((first
    | (go_at_call 73
       refine (I.o _ (by (repeat (first|(with_reducible exact Below.refl _ _)|(with_reducible refine Below.drew ?_)));done)).mono ?_;rintro e wA⟨rfl,U⟩;have u:=O (D.o.below U);clear c4 k a d U;obtain⟨c4,k,a,d⟩:=jK u)
    | (go_at_call 54
       refine (EO (S:=fS W.heap.size g #[.int .u8 42,.string (aU x.1.text),.int .i64 x.1.n,.slice (some ⟨kb,V,none⟩) M kc,.int .i64 x.1.at_] m S) (by first | exact u | exact O u.o.drew | exact O u.o.drew.drew | exact O (u.o.drewN _)) (Go.Lib.itoa x.1.n) (-1) (by simp) (by have:=r.o;simp [ak] at this ⊢;omega)).mono ?_;rintro e w7⟨pv7,rfl,H7⟩;clear c4 k a d;obtain⟨c4,k,a,d⟩:=jK H7)))
 all_goals
  clear u I D;go_wp2_with fail;refine (EO H7 [61] (-1) (by simp) (by have:=r.o;simp [ak] at this ⊢;omega)).mono ?_;rintro e w8⟨pv8,rfl,H8⟩;clear H7 c4 k a d;obtain⟨c4,k,a,d⟩:=jK H8;have wm:wrap64 ((m:Int)+1)=((m+1:Nat):Int):=by have:=rW.o;have:=E9.o;unfold wrap64;omega
  go_wp2_with fail;refine (Qi (kd1 H8 C.o HK.o (j:=m+1) (by have:=E9.o;omega) HE.o (by have:=r.o;rw [dR];simp [ak] at this ⊢;omega)) (by simp)).mono ?_;rintro e w9⟨pv9,rfl,H9⟩;clear H8 c4 k a d;obtain⟨c4,k,a,d⟩:=jK H9;go_wp2_with fail;go_end0
  exact⟨_,rfl,O (by have h:=H9.o.tl.tl.tl;simpa [List.append_assoc] using h)⟩
end
end
set_option linter.all false
section
open Go.RowKit Mist
attribute [local go_sem] au aN aV aM aG
def eF:List (Nat × Value):=[(40,.string (aU [99,104,111,111,115,101])),(41,.string (aU [116,121,112,101])),(42,.string (aU [102,117,110])),(43,.string (aU [108,101,116])),(44,.string (aU [111,98,115,101,114,118,101])),(45,.string (aU [114,101,116,114,97,99,116])),(46,.string (aU [97,115,107]))]
section
variable {S:Sz} {B g n c f i j q b2 b3 b4 b6 h:Nat} {cs:Array Value} {w W:World} {A Bi:Option Addr} {nv iv pv:Value} {ps l:List Pz} {xs:List NV} {its:List Int} {x y:NV}
theorem NR (w:World):(Instr.mapUpdate 94 (.map (some w.heap.size)) (.int .u8 40) (.string ⟨#[99,104,111,111,115,101]⟩)).run Tryz.prog (w.alloc (.map #[] 0))=.ok () (w.alloc (.map (gD (eF.take 1) 0).toArray 1)):=lK 94 9 Tryz.underlying94 w eF 0 40 _ rfl rfl
theorem NS (w:World):(Instr.mapUpdate 94 (.map (some w.heap.size)) (.int .u8 41) (.string ⟨#[116,121,112,101]⟩)).run Tryz.prog (w.alloc (.map (gD (eF.take 1) 0).toArray 1))=.ok () (w.alloc (.map (gD (eF.take 2) 0).toArray 2)):=lK 94 9 Tryz.underlying94 w eF 1 41 _ rfl rfl
theorem NT (w:World):(Instr.mapUpdate 94 (.map (some w.heap.size)) (.int .u8 42) (.string ⟨#[102,117,110]⟩)).run Tryz.prog (w.alloc (.map (gD (eF.take 2) 0).toArray 2))=.ok () (w.alloc (.map (gD (eF.take 3) 0).toArray 3)):=lK 94 9 Tryz.underlying94 w eF 2 42 _ rfl rfl
theorem NU (w:World):(Instr.mapUpdate 94 (.map (some w.heap.size)) (.int .u8 43) (.string ⟨#[108,101,116]⟩)).run Tryz.prog (w.alloc (.map (gD (eF.take 3) 0).toArray 3))=.ok () (w.alloc (.map (gD (eF.take 4) 0).toArray 4)):=lK 94 9 Tryz.underlying94 w eF 3 43 _ rfl rfl
theorem NW (w:World):(Instr.mapUpdate 94 (.map (some w.heap.size)) (.int .u8 44) (.string ⟨#[111,98,115,101,114,118,101]⟩)).run Tryz.prog (w.alloc (.map (gD (eF.take 4) 0).toArray 4))=.ok () (w.alloc (.map (gD (eF.take 5) 0).toArray 5)):=lK 94 9 Tryz.underlying94 w eF 4 44 _ rfl rfl
theorem NY (w:World):(Instr.mapUpdate 94 (.map (some w.heap.size)) (.int .u8 45) (.string ⟨#[114,101,116,114,97,99,116]⟩)).run Tryz.prog (w.alloc (.map (gD (eF.take 5) 0).toArray 5))=.ok () (w.alloc (.map (gD (eF.take 6) 0).toArray 6)):=lK 94 9 Tryz.underlying94 w eF 5 45 _ rfl rfl
theorem NZ (w:World):(Instr.mapUpdate 94 (.map (some w.heap.size)) (.int .u8 46) (.string ⟨#[97,115,107]⟩)).run Tryz.prog (w.alloc (.map (gD (eF.take 6) 0).toArray 6))=.ok () (w.alloc (.map (gD (eF.take 7) 0).toArray 7)):=lK 94 9 Tryz.underlying94 w eF 6 46 _ rfl rfl
theorem Dp (w:World)(K:Nat)(t:Bs)(h:pV K eF=some (.string (aU t))):(Instr.lookup 94 (.map (some w.heap.size)) (.int .u8 K) false).run Tryz.prog (w.alloc (.map (gD (eF.take 7) 0).toArray 7))=.ok (.string (aU t)) (w.alloc (.map (gD (eF.take 7) 0).toArray 7)):=by
 have a:=DC 94 9 (.string ByteArray.empty) Tryz.underlying94 (w.alloc (.map (gD (eF.take 7) 0).toArray 7)) (Gf _) eF w.heap.size 7 (heap_alloc_new w _) K;rw [a,h];rfl
theorem xlt (H:Hid (PZ (xS h g i cs S) B g w W nv iv pv ps)):h < W.heap.size∧h+1 < W.heap.size∧h+2 < W.heap.size :=
 ⟨(H.o.kp _ (List.mem_cons_of_mem _ (List.mem_cons_of_mem _ (List.mem_cons_self ..)))).1.lt,(H.o.kp _ (List.mem_cons_of_mem _ (List.mem_cons_self ..))).1.lt,(H.o.kp _ (List.mem_cons_self ..)).1.lt⟩
theorem qF (H:Hid (PZ (xS h g i cs S) B g w W nv iv pv ps)):W.cell? ⟨h+2,3,none⟩=cs[3]? ∧ W.cell? ⟨h+2,4,none⟩=cs[4]? := ⟨(H.o.kp _ (List.mem_cons_self ..)).1.cell 3,(H.o.kp _ (List.mem_cons_self ..)).1.cell 4⟩
theorem agX (h g i:Nat)(S:Sz)(e:j_ x=cs):(h+2,39,j_ x) ∈ xS h g i cs S:=by rw [e];exact List.mem_cons_self ..
theorem D7:Lib.fields [109,117,115,116,32,109,97,121,32,99,111,117,110,116,32,98,111,117,110,100,115,32,118,97,108,117,101,115,32,119,104,121,32,98,108,97,109,101,32,108,111,111,107]=gG.drop 1:=by decide +kernel
theorem TP (w:World)(a:Env w):Calls Tryz.prog 62 #[] w fun e b=>e=.returned (.slice (some ⟨w.heap.size,0,none⟩) 8 8)∧w.alloc (.cells (iR (gG.drop 1)) 9)=b:=by
 go_in
 go_wp2_with (go_at_call 111;refine (Tryz.strings_Fields_laid _ _ ?c1 ?c2 a.tab).mono ?_)
 case c1=>decide +kernel
 case c2=>exact CJ _ (by decide +kernel)
 ·go_ret;simp only [D7];exact⟨rfl,rfl⟩
theorem TL {w w0 a:World}(t:Env w)(h0:Below w.heap.size w w0)(C:w.heap.size≤w0.heap.size){r:Nat}(o:r < 8)(b:Below w0.heap.size w0 a) :
  Calls Tryz.prog 62 #[] a fun e d=>∃ m,e=.returned (.slice (some ⟨m,0,none⟩) 8 8)∧d.cell? ⟨m,r,none⟩=some (.string (aU (gG.getD (r+1) [])))∧Below w0.heap.size w0 d:=by
 refine (TP a (t.below (h0.trans (b.mono C)))).mono ?_;rintro e D⟨rfl,rfl⟩
 refine⟨_,rfl,?_,b.alloc b.size _⟩
 have u:=(aZ.new a 9 (iR (gG.drop 1))).cell r;rw [u,Ed _ _ (by show r < 8;exact o)]
 have:∀ k:Fin 8,sg (gG.drop 1) k.val=gG.getD (k.val+1) []:=by decide
 rw [this ⟨r,o⟩]
theorem EN (H:Hid (PZ S B g w W (.slice A n c) iv pv ps))(X:CX w B A Bi n xs its)(K:KX w B g A n c iv xs its f i x)(Y:x.1.kind=45)(hf:0 < f)
  (hl:ps.length+(aW ⟨aj xs,its⟩ (ah ⟨aj xs,its⟩ f) i).length≤1000000) :
  Calls Tryz.prog 24 #[.pointer (some ⟨g,0,none⟩),.int .i64 i] W (kS S B g w (.slice A n c) iv (gH ps (aW ⟨aj xs,its⟩ (ah ⟨aj xs,its⟩ f) i))):=by
 have en:=xZ (T:=⟨aj xs,its⟩) (B:=ah ⟨aj xs,its⟩ f) (i:=i) (by rw [aY its K.hx];exact Y)
 try rw [aY its K.hx] at en
 rw [en] at hl ⊢
 clear en;have hi:i < n:=by rw [← X.len];exact (aiq.1 K.hx).1
 obtain⟨b,o,hA,U⟩:=(X.at_ H.o).nodes (by have:=X.len;omega);have HB:=O U.lt;obtain⟨J,kc,k,hkl,Z⟩:=X.kids H.o K.hx;obtain⟨m,P⟩:∃ m,m=x.1.kids.length:=⟨_,rfl⟩;subst hA;have y0:(0:Int)≤(i:Int):=by omega
 have y1:(i:Int) < (n:Int):=by omega
 have hg:=H.o.blk.lt;have EB:=O (show j_ x=#[.int .u8 45,.string (aU x.1.text),.int .i64 x.1.n,.slice J m kc,.int .i64 x.1.at_] from by unfold j_;rw [Y,k,P];rfl);have L:=vV i H;have t:=Pt W g i;have r:=O (Pp W g i);have u:=O U;have vD:=O k;have nP:=O (show x.1.kind=45 from Y);have R:=O hl;have HX:=O X;have I:=O K;have HM:=O P;have V:=HB.o;have Fe:=O (show x.2=.slice J m kc from by rw [k,P]);have IL:=O hkl;clear H k Z hl X K P U;go_in
 go_upto_region 1 with (fail)
 generalize (W.alloc (.cells #[.pointer (some ⟨g,0,none⟩)] 56)).alloc (.cells #[.int .i64 (i:Nat)] 3)=w0 at L t r ⊢
 have c0:w0.cell? ⟨g,0,none⟩=some (.slice (some ⟨b,o,none⟩) n c):=L.o.blk.cell 0;obtain⟨d2,d3⟩:=jR L;have jZ:=O t;have ug:g < w0.heap.size:=by omega
 have ub:b < w0.heap.size:=by omega
 have uW:W.heap.size < w0.heap.size:=by omega
 have yM:W.heap.size+1 < w0.heap.size:=by omega
 clear t;have k0:w0.cell? ⟨b,o+i * 5,none⟩=some (.int .u8 45):=by have h:=(u.o.below r.o).c0 i x I.o.hx;rw [nP.o] at h;exact h
 have k1:w0.cell? ⟨b,o+i * 5+1,none⟩=some (.string (aU x.1.text)):=(u.o.below r.o).c1 i x I.o.hx;have k2:w0.cell? ⟨b,o+i * 5+2,none⟩=some (.int .i64 x.1.n):=(u.o.below r.o).c2 i x I.o.hx;have k4:w0.cell? ⟨b,o+i * 5+4,none⟩=some (.int .i64 x.1.at_):=(u.o.below r.o).c4 i x I.o.hx;have k3:w0.cell? ⟨b,o+i * 5+3,none⟩=some (.slice J m kc):=by rw [HM.o,← vD.o];exact (u.o.below r.o).c3 i x I.o.hx
 go_region
 have C:=Pq i #[.int .u8 45,.string (aU x.1.text),.int .i64 x.1.n,.slice J m kc,.int .i64 x.1.at_] jZ.o L;rw [jZ.o]
 generalize (w0.alloc (.cells #[.int .u8 45,.string (aU x.1.text),.int .i64 x.1.n,.slice J m kc,.int .i64 x.1.at_] 39)).drew=d at C ⊢
 clear V c0 k0 k1 k2 k3 k4 d2 d3 L uW yM ug ub jZ r u HB y0 y1;obtain⟨c2,c3,a,D,E⟩:=cO C;obtain⟨u0,u1,u2⟩:=xlt C;obtain⟨F,G⟩:=qF C;have hmm:=@run_makeMap Tryz.prog;have i0:=NR d;have i1:=NS d;have i2:=NT d;have i3:=NU d;have i4:=NW d;have i5:=NY d;have i6:=NZ d;have hlk:(Instr.lookup 94 (.map (some d.heap.size)) (.int .u8 45) false).run Tryz.prog (d.alloc (.map (gD (eF.take 7) 0).toArray 7))=.ok (.string (aU [114,101,116,114,97,99,116])) (d.alloc (.map (gD (eF.take 7) 0).toArray 7)):=Dp d 45 _ rfl;go_wp2_with fail;refine (yQ (O (C.o.alloc _)) [114,101,116,114,97,99,116] (i:Int) (by have:=R.o;simp [ak] at this;omega)).mono ?_;rintro e w1⟨vP,rfl,M⟩;clear hlk hmm i0 i1 i2 i3 i4 i5 i6 u0 u1 u2 c2 c3 a D E F G C;obtain⟨c2,c3,a,D,E⟩:=cO M;obtain⟨F,G⟩:=qF M;go_wp2_with fail;refine (EO M x.1.text (-1) (by simp) (by have:=R.o;simp [ak] at this ⊢;omega)).mono ?_;rintro e w2⟨l8,rfl,N⟩;clear c2 c3 a D E F G M;obtain⟨c2,c3,a,D,E⟩:=cO N;obtain⟨F,G⟩:=qF N;go_wp2_with fail;refine (uO N [59] (-1) (by simp) (by have:=R.o;simp [ak] at this ⊢;omega)).mono ?_;rintro e w3⟨sw,rfl,Q⟩;clear c2 c3 a D E F G N;obtain⟨c2,c3,a,D,E⟩:=cO Q;obtain⟨F,G⟩:=qF Q;go_wp2_with fail;go_end0
 exact⟨_,rfl,O (by have h:=Q.o.xe;simpa [List.append_assoc,dD,tz,lz] using h)⟩
theorem TB (H:Hid (PZ S B g w W (.slice A n c) iv pv ps))(X:CX w B A Bi n xs its)(K:KX w B g A n c iv xs its f i x)(hk:x.1.kind=43)(hf:0 < f)(hm1:x.1.kids.length=1)(E:∀ j,j < x.1.kids.length→KE w B g A n c iv xs its f x j)
  (hl:ps.length+(aW ⟨aj xs,its⟩ (ah ⟨aj xs,its⟩ f) i).length≤1000000) :
  Calls Tryz.prog 24 #[.pointer (some ⟨g,0,none⟩),.int .i64 i] W (kS S B g w (.slice A n c) iv (gH ps (aW ⟨aj xs,its⟩ (ah ⟨aj xs,its⟩ f) i))):=by
 have en:=xX (T:=⟨aj xs,its⟩) (B:=ah ⟨aj xs,its⟩ f) (i:=i) (by rw [aY its K.hx];exact hk)
 try rw [aY its K.hx] at en
 rw [en] at hl ⊢
 clear en;have hi:i < n:=by rw [← X.len];exact (aiq.1 K.hx).1
 obtain⟨b,o,hA,Z⟩:=(X.at_ H.o).nodes (by have:=X.len;omega);have HB:=O Z.lt;obtain⟨M,kc,C,hkl,hki⟩:=X.kids H.o K.hx;obtain⟨m,V⟩:∃ m,m=x.1.kids.length:=⟨_,rfl⟩;subst hA;have y0:(0:Int)≤(i:Int):=by omega
 have y1:(i:Int) < (n:Int):=by omega
 have hg:=H.o.blk.lt;have EB:=O (show j_ x=#[.int .u8 43,.string (aU x.1.text),.int .i64 x.1.n,.slice M m kc,.int .i64 x.1.at_] from by unfold j_;rw [hk,C,V];rfl);have N:=vV i H;have F:=Pt W g i;have D:=O (Pp W g i);have I:=O Z;have vD:=O C;have nP:=O (show x.1.kind=43 from hk);have L:=O hl;have HX:=O X;have G:=O K;have HM:=O V;have HE:=O E;have hbw:=HB.o;have Fe:=O (show x.2=.slice M m kc from by rw [C,V]);have IL:=O hkl;clear H C hki hl X K V Z E;go_in
 go_upto_region 1 with (fail)
 generalize (W.alloc (.cells #[.pointer (some ⟨g,0,none⟩)] 56)).alloc (.cells #[.int .i64 (i:Nat)] 3)=w0 at N F D ⊢
 have c0:w0.cell? ⟨g,0,none⟩=some (.slice (some ⟨b,o,none⟩) n c):=N.o.blk.cell 0;obtain⟨d2,d3⟩:=jR N;have jZ:=O F;have ug:g < w0.heap.size:=by omega
 have ub:b < w0.heap.size:=by omega
 have uW:W.heap.size < w0.heap.size:=by omega
 have yM:W.heap.size+1 < w0.heap.size:=by omega
 clear F;have k0:w0.cell? ⟨b,o+i * 5,none⟩=some (.int .u8 43):=by have h:=(I.o.below D.o).c0 i x G.o.hx;rw [nP.o] at h;exact h
 have k1:w0.cell? ⟨b,o+i * 5+1,none⟩=some (.string (aU x.1.text)):=(I.o.below D.o).c1 i x G.o.hx;have k2:w0.cell? ⟨b,o+i * 5+2,none⟩=some (.int .i64 x.1.n):=(I.o.below D.o).c2 i x G.o.hx;have k4:w0.cell? ⟨b,o+i * 5+4,none⟩=some (.int .i64 x.1.at_):=(I.o.below D.o).c4 i x G.o.hx;have k3:w0.cell? ⟨b,o+i * 5+3,none⟩=some (.slice M m kc):=by rw [HM.o,← vD.o];exact (I.o.below D.o).c3 i x G.o.hx
 go_region
 have J:=Pq i #[.int .u8 43,.string (aU x.1.text),.int .i64 x.1.n,.slice M m kc,.int .i64 x.1.at_] jZ.o N;rw [jZ.o]
 generalize (w0.alloc (.cells #[.int .u8 43,.string (aU x.1.text),.int .i64 x.1.n,.slice M m kc,.int .i64 x.1.at_] 39)).drew=d at J ⊢
 clear hbw c0 k0 k1 k2 k3 k4 d2 d3 N uW yM ug ub jZ D I HB y0 y1;obtain⟨c2,c3,a,k,r⟩:=cO J;obtain⟨u0,u1,u2⟩:=xlt J;obtain⟨t,u⟩:=qF J;have hmm:=@run_makeMap Tryz.prog;have i0:=NR d;have i1:=NS d;have i2:=NT d;have i3:=NU d;have i4:=NW d;have i5:=NY d;have i6:=NZ d;have hlk:(Instr.lookup 94 (.map (some d.heap.size)) (.int .u8 43) false).run Tryz.prog (d.alloc (.map (gD (eF.take 7) 0).toArray 7))=.ok (.string (aU [108,101,116])) (d.alloc (.map (gD (eF.take 7) 0).toArray 7)):=Dp d 43 _ rfl;go_wp2_with fail;refine (yQ (O (J.o.alloc _)) [108,101,116] (i:Int) (by have:=L.o;simp [ak] at this;omega)).mono ?_;rintro e w1⟨vP,rfl,P⟩;clear hlk hmm i0 i1 i2 i3 i4 i5 i6 u0 u1 u2 c2 c3 a k r t u J;obtain⟨c2,c3,a,k,r⟩:=cO P;obtain⟨t,u⟩:=qF P;go_wp2_with fail;refine (EO P x.1.text (-1) (by simp) (by have:=L.o;simp [ak] at this ⊢;omega)).mono ?_;rintro e w2⟨l8,rfl,Q⟩;clear c2 c3 a k r t u P;obtain⟨c2,c3,a,k,r⟩:=cO Q;obtain⟨t,u⟩:=qF Q;go_wp2_with fail;refine (EO Q [61] (-1) (by simp) (by have:=L.o;simp [ak] at this ⊢;omega)).mono ?_;rintro e w3⟨sw,rfl,R⟩;clear c2 c3 a k r t u Q;obtain⟨c2,c3,a,k,r⟩:=cO R;obtain⟨t,u⟩:=qF R;go_wp2_with fail;refine (Qi (kd1 R HX.o G.o (j:=0) (by omega) (HE.o 0 (by omega)) (by have:=L.o;rw [dR];simp [ak] at this ⊢;omega)) (by simp)).mono ?_;rintro e w4⟨B_,rfl,U⟩;clear c2 c3 a k r t u R;obtain⟨c2,c3,a,k,r⟩:=cO U;obtain⟨t,u⟩:=qF U;go_wp2_with fail;refine (uO U [59] (-1) (by simp) (by have:=L.o;simp [ak] at this ⊢;omega)).mono ?_;rintro e w5⟨pv5,rfl,Y⟩;clear c2 c3 a k r t u U;obtain⟨c2,c3,a,k,r⟩:=cO Y;obtain⟨t,u⟩:=qF Y;go_wp2_with fail;go_end0
 exact⟨_,rfl,O (by have h:=Y.o.xe;simpa [List.append_assoc,dD,tz,lz] using h)⟩
theorem EM (H:Hid (PZ S B g w W (.slice A n c) iv pv ps))(X:CX w B A Bi n xs its)(K:KX w B g A n c iv xs its f i x)(hk:x.1.kind=44)(hf:0 < f)(hm1:x.1.kids.length=1)(E:∀ j,j < x.1.kids.length→KE w B g A n c iv xs its f x j)
  (hl:ps.length+(aW ⟨aj xs,its⟩ (ah ⟨aj xs,its⟩ f) i).length≤1000000) :
  Calls Tryz.prog 24 #[.pointer (some ⟨g,0,none⟩),.int .i64 i] W (kS S B g w (.slice A n c) iv (gH ps (aW ⟨aj xs,its⟩ (ah ⟨aj xs,its⟩ f) i))):=by
 have en:=xY (T:=⟨aj xs,its⟩) (B:=ah ⟨aj xs,its⟩ f) (i:=i) (by rw [aY its K.hx];exact hk)
 try rw [aY its K.hx] at en
 rw [en] at hl ⊢
 clear en;have hi:i < n:=by rw [← X.len];exact (aiq.1 K.hx).1
 obtain⟨b,o,hA,Z⟩:=(X.at_ H.o).nodes (by have:=X.len;omega);have HB:=O Z.lt;obtain⟨M,kc,C,hkl,hki⟩:=X.kids H.o K.hx;obtain⟨m,V⟩:∃ m,m=x.1.kids.length:=⟨_,rfl⟩;subst hA;have y0:(0:Int)≤(i:Int):=by omega
 have y1:(i:Int) < (n:Int):=by omega
 have hg:=H.o.blk.lt;have EB:=O (show j_ x=#[.int .u8 44,.string (aU x.1.text),.int .i64 x.1.n,.slice M m kc,.int .i64 x.1.at_] from by unfold j_;rw [hk,C,V];rfl);have N:=vV i H;have F:=Pt W g i;have D:=O (Pp W g i);have I:=O Z;have vD:=O C;have nP:=O (show x.1.kind=44 from hk);have L:=O hl;have HX:=O X;have G:=O K;have HM:=O V;have HE:=O E;have hbw:=HB.o;have Fe:=O (show x.2=.slice M m kc from by rw [C,V]);have IL:=O hkl;clear H C hki hl X K V Z E;go_in
 go_upto_region 1 with (fail)
 generalize (W.alloc (.cells #[.pointer (some ⟨g,0,none⟩)] 56)).alloc (.cells #[.int .i64 (i:Nat)] 3)=w0 at N F D ⊢
 have c0:w0.cell? ⟨g,0,none⟩=some (.slice (some ⟨b,o,none⟩) n c):=N.o.blk.cell 0;obtain⟨d2,d3⟩:=jR N;have jZ:=O F;have ug:g < w0.heap.size:=by omega
 have ub:b < w0.heap.size:=by omega
 have uW:W.heap.size < w0.heap.size:=by omega
 have yM:W.heap.size+1 < w0.heap.size:=by omega
 clear F;have k0:w0.cell? ⟨b,o+i * 5,none⟩=some (.int .u8 44):=by have h:=(I.o.below D.o).c0 i x G.o.hx;rw [nP.o] at h;exact h
 have k1:w0.cell? ⟨b,o+i * 5+1,none⟩=some (.string (aU x.1.text)):=(I.o.below D.o).c1 i x G.o.hx;have k2:w0.cell? ⟨b,o+i * 5+2,none⟩=some (.int .i64 x.1.n):=(I.o.below D.o).c2 i x G.o.hx;have k4:w0.cell? ⟨b,o+i * 5+4,none⟩=some (.int .i64 x.1.at_):=(I.o.below D.o).c4 i x G.o.hx;have k3:w0.cell? ⟨b,o+i * 5+3,none⟩=some (.slice M m kc):=by rw [HM.o,← vD.o];exact (I.o.below D.o).c3 i x G.o.hx
 go_region
 have J:=Pq i #[.int .u8 44,.string (aU x.1.text),.int .i64 x.1.n,.slice M m kc,.int .i64 x.1.at_] jZ.o N;rw [jZ.o]
 generalize (w0.alloc (.cells #[.int .u8 44,.string (aU x.1.text),.int .i64 x.1.n,.slice M m kc,.int .i64 x.1.at_] 39)).drew=d at J ⊢
 clear hbw c0 k0 k1 k2 k3 k4 d2 d3 N uW yM ug ub jZ D I HB y0 y1;obtain⟨c2,c3,a,k,r⟩:=cO J;obtain⟨u0,u1,u2⟩:=xlt J;obtain⟨t,u⟩:=qF J;have hmm:=@run_makeMap Tryz.prog;have i0:=NR d;have i1:=NS d;have i2:=NT d;have i3:=NU d;have i4:=NW d;have i5:=NY d;have i6:=NZ d;have hlk:(Instr.lookup 94 (.map (some d.heap.size)) (.int .u8 44) false).run Tryz.prog (d.alloc (.map (gD (eF.take 7) 0).toArray 7))=.ok (.string (aU [111,98,115,101,114,118,101])) (d.alloc (.map (gD (eF.take 7) 0).toArray 7)):=Dp d 44 _ rfl;go_wp2_with fail;refine (yQ (O (J.o.alloc _)) [111,98,115,101,114,118,101] (i:Int) (by have:=L.o;simp [ak] at this;omega)).mono ?_;rintro e w1⟨vP,rfl,P⟩;clear hlk hmm i0 i1 i2 i3 i4 i5 i6 u0 u1 u2 c2 c3 a k r t u J;obtain⟨c2,c3,a,k,r⟩:=cO P;obtain⟨t,u⟩:=qF P;go_wp2_with fail;refine (EO P x.1.text (-1) (by simp) (by have:=L.o;simp [ak] at this ⊢;omega)).mono ?_;rintro e w2⟨l8,rfl,Q⟩;clear c2 c3 a k r t u P;obtain⟨c2,c3,a,k,r⟩:=cO Q;obtain⟨t,u⟩:=qF Q;go_wp2_with fail;refine (uO Q [58] (-1) (by simp) (by have:=L.o;simp [ak] at this ⊢;omega)).mono ?_;rintro e w3⟨sw,rfl,R⟩;clear c2 c3 a k r t u Q;obtain⟨c2,c3,a,k,r⟩:=cO R;obtain⟨t,u⟩:=qF R;go_wp2_with fail;refine (Qi (kd1 R HX.o G.o (j:=0) (by omega) (HE.o 0 (by omega)) (by have:=L.o;rw [dR];simp [ak] at this ⊢;omega)) (by simp)).mono ?_;rintro e w4⟨B_,rfl,U⟩;clear c2 c3 a k r t u R;obtain⟨c2,c3,a,k,r⟩:=cO U;obtain⟨t,u⟩:=qF U;go_wp2_with fail;refine (uO U [59] (-1) (by simp) (by have:=L.o;simp [ak] at this ⊢;omega)).mono ?_;rintro e w5⟨pv5,rfl,Y⟩;clear c2 c3 a k r t u U;obtain⟨c2,c3,a,k,r⟩:=cO Y;obtain⟨t,u⟩:=qF Y;go_wp2_with fail;go_end0
 exact⟨_,rfl,O (by have h:=Y.o.xe;simpa [List.append_assoc,dD,tz,lz] using h)⟩
theorem OB (H:Hid (PZ S B g w W (.slice A n c) iv pv ps))(X:CX w B A Bi n xs its)(K:KX w B g A n c iv xs its f i x)(hk:x.1.kind=41)(hf:0 < f)(hm1:1≤x.1.kids.length)(F:PK w B g A n c iv xs its f x.1.kids.length x)
  (hl:ps.length+(aW ⟨aj xs,its⟩ (ah ⟨aj xs,its⟩ f) i).length≤1000000) :
  Calls Tryz.prog 24 #[.pointer (some ⟨g,0,none⟩),.int .i64 i] W (kS S B g w (.slice A n c) iv (gH ps (aW ⟨aj xs,its⟩ (ah ⟨aj xs,its⟩ f) i))):=by
 have en:=xV (T:=⟨aj xs,its⟩) (B:=ah ⟨aj xs,its⟩ f) (i:=i) (by rw [aY its K.hx];exact hk)
 try rw [aY its K.hx] at en
 rw [en] at hl ⊢
 clear en;have hi:i < n:=by rw [← X.len];exact (aiq.1 K.hx).1
 obtain⟨b,o,hA,hN⟩:=(X.at_ H.o).nodes (by have:=X.len;omega);have HB:=O hN.lt;obtain⟨P,kc,E,hkl,hki⟩:=X.kids H.o K.hx;obtain⟨m,Z⟩:∃ m,m=x.1.kids.length:=⟨_,rfl⟩;subst hA;have y0:(0:Int)≤(i:Int):=by omega
 have y1:(i:Int) < (n:Int):=by omega
 have hg:=H.o.blk.lt;have EB:=O (show j_ x=#[.int .u8 41,.string (aU x.1.text),.int .i64 x.1.n,.slice P m kc,.int .i64 x.1.at_] from by unfold j_;rw [hk,E,Z];rfl);have Q:=vV i H;have J:=Pt W g i;have I:=O (Pp W g i);have L:=O hN;have vD:=O E;have nP:=O (show x.1.kind=41 from hk);have N:=O hl;have HX:=O X;have r:=O K;have G:=O Z;have HF:=O F;have hbw:=HB.o;have Fe:=O (show x.2=.slice P m kc from by rw [E,Z]);have IL:=O hkl;clear H E hki hl X K Z hN F;go_in
 go_upto_region 1 with (fail)
 generalize (W.alloc (.cells #[.pointer (some ⟨g,0,none⟩)] 56)).alloc (.cells #[.int .i64 (i:Nat)] 3)=w0 at Q J I ⊢
 have c0:w0.cell? ⟨g,0,none⟩=some (.slice (some ⟨b,o,none⟩) n c):=Q.o.blk.cell 0;obtain⟨d2,d3⟩:=jR Q;have jZ:=O J;have ug:g < w0.heap.size:=by omega
 have ub:b < w0.heap.size:=by omega
 have uW:W.heap.size < w0.heap.size:=by omega
 have yM:W.heap.size+1 < w0.heap.size:=by omega
 clear J;have k0:w0.cell? ⟨b,o+i * 5,none⟩=some (.int .u8 41):=by have h:=(L.o.below I.o).c0 i x r.o.hx;rw [nP.o] at h;exact h
 have k1:w0.cell? ⟨b,o+i * 5+1,none⟩=some (.string (aU x.1.text)):=(L.o.below I.o).c1 i x r.o.hx;have k2:w0.cell? ⟨b,o+i * 5+2,none⟩=some (.int .i64 x.1.n):=(L.o.below I.o).c2 i x r.o.hx;have k4:w0.cell? ⟨b,o+i * 5+4,none⟩=some (.int .i64 x.1.at_):=(L.o.below I.o).c4 i x r.o.hx;have k3:w0.cell? ⟨b,o+i * 5+3,none⟩=some (.slice P m kc):=by rw [G.o,← vD.o];exact (L.o.below I.o).c3 i x r.o.hx
 go_region
 have M:=Pq i #[.int .u8 41,.string (aU x.1.text),.int .i64 x.1.n,.slice P m kc,.int .i64 x.1.at_] jZ.o Q;rw [jZ.o]
 generalize (w0.alloc (.cells #[.int .u8 41,.string (aU x.1.text),.int .i64 x.1.n,.slice P m kc,.int .i64 x.1.at_] 39)).drew=d at M ⊢
 clear hbw c0 k0 k1 k2 k3 k4 d2 d3 Q uW yM ug ub jZ I L HB y0 y1;obtain⟨c2,c3,a,t,u⟩:=cO M;obtain⟨u0,u1,u2⟩:=xlt M;obtain⟨C,D⟩:=qF M;have hmm:=@run_makeMap Tryz.prog;have i0:=NR d;have i1:=NS d;have i2:=NT d;have i3:=NU d;have i4:=NW d;have i5:=NY d;have i6:=NZ d;have hlk:(Instr.lookup 94 (.map (some d.heap.size)) (.int .u8 41) false).run Tryz.prog (d.alloc (.map (gD (eF.take 7) 0).toArray 7))=.ok (.string (aU [116,121,112,101])) (d.alloc (.map (gD (eF.take 7) 0).toArray 7)):=Dp d 41 _ rfl;go_wp2_with fail;refine (yQ (O (M.o.alloc _)) [116,121,112,101] (i:Int) (by have:=N.o;simp [ak] at this;omega)).mono ?_;rintro e w1⟨vP,rfl,R⟩;clear hlk hmm i0 i1 i2 i3 i4 i5 i6 u0 u1 u2 c2 c3 a t u C D M;obtain⟨c2,c3,a,t,u⟩:=cO R;obtain⟨C,D⟩:=qF R;go_wp2_with fail;refine (EO R x.1.text (-1) (by simp) (by have:=N.o;simp [ak] at this ⊢;omega)).mono ?_;rintro e w2⟨l8,rfl,U⟩;clear c2 c3 a t u C D R;obtain⟨c2,c3,a,t,u⟩:=cO U;obtain⟨C,D⟩:=qF U;go_wp2_with fail;refine (EO U [61] (-1) (by simp) (by have:=N.o;simp [ak] at this ⊢;omega)).mono ?_;rintro e w3⟨sw,rfl,V⟩;clear c2 c3 a t u C D U;obtain⟨c2,c3,a,t,u⟩:=cO V;obtain⟨C,D⟩:=qF V;go_wp2_with fail
 refine (Jw false V (by simp) 58 #[.pointer (some ⟨W.heap.size,0,none⟩),.pointer (some ⟨W.heap.size+2,0,none⟩)] (bM ⟨aj xs,its⟩ (ah ⟨aj xs,its⟩ f) i) m (r.o.ne hf 0 (.inr rfl)) (by have:=N.o;rw [G.o];simp [ak,dD] at this ⊢;omega) (by rw [G.o];exact IL.o) (fun j W'=>by kernel_rfl)
   (fun S' j W' pv' qs hs hj hq h=>by
    obtain⟨q,y,e1,e2,e3⟩:=r.o.k j (by rw [← G.o];exact hj);have ek:bM ⟨aj xs,its⟩ (ah ⟨aj xs,its⟩ f) i j=ah ⟨aj xs,its⟩ f q:=kW (by rw [aY its r.o.hx];omega) (by rw [aY its r.o.hx];exact e1);rw [ek] at hq ⊢
    exact abb h HX.o r.o.hx (hs _ (EY _ _ _ _ _)) (hs _ (agX _ _ _ _ EB.o)) e1 (HF.o j q (by rw [← G.o];exact hj) e1) hq)).mono ?_
 rintro e w4⟨B_,rfl,Y⟩;clear c2 c3 a t u C D V;obtain⟨c2,c3,a,t,u⟩:=cO Y;obtain⟨C,D⟩:=qF Y;go_wp2_with fail;refine (uO Y [59] (-1) (by simp) (by have:=N.o;rw [G.o];simp [ak,dD] at this ⊢;omega)).mono ?_;rintro e w5⟨pv5,rfl,H5⟩;clear c2 c3 a t u C D Y;obtain⟨c2,c3,a,t,u⟩:=cO H5;obtain⟨C,D⟩:=qF H5;go_wp2_with fail;go_end0
 exact⟨_,rfl,O (by have h:=H5.o.xe;rw [G.o] at h;simpa [List.append_assoc,dD,tz,lz] using h)⟩
theorem ng2 {a:Nat}{args:Array Value}{r:List Pz}(b:Calls Tryz.prog a args W (kS S B g w nv iv (gH ps l ++ aH false r)))(d:l ≠ []):Calls Tryz.prog a args W (kS S B g w nv iv (gH ps (l ++ aH false r))):=by
 rw [uz ps d];exact b
theorem Ig {z:NV}(H:Hid (PZ S B g w W (.slice A n c) iv pv ps))(X:CX w B A Bi n xs its)(K:KX w B g A n c iv xs its f i x)(hk:x.1.kind=40)(hf:0 < f)(hm1:x.1.kids.length=2)(L:x.1.kids[0]? = some ((q:Nat):Int))(hy:xs[q]? = some y)(M:x.1.kids[1]? = some ((j:Nat):Int))(hz:xs[j]? = some z)(hf2:q+1 < f∧j+1 < f)(hyk:y.1.kind=1∧z.1.kind=1)(hyn:-9999≤y.1.n∧y.1.n≤9999)(hzn:-9999≤z.1.n∧z.1.n≤9999)
  (hl:ps.length+(aW ⟨aj xs,its⟩ (ah ⟨aj xs,its⟩ f) i).length≤1000000) :
  Calls Tryz.prog 24 #[.pointer (some ⟨g,0,none⟩),.int .i64 i] W (kS S B g w (.slice A n c) iv (gH ps (aW ⟨aj xs,its⟩ (ah ⟨aj xs,its⟩ f) i))):=by
 have en:=xU (T:=⟨aj xs,its⟩) (B:=ah ⟨aj xs,its⟩ f) (i:=i) (by rw [aY its K.hx];exact hk)
 try rw [aY its K.hx] at en
 rw [en] at hl ⊢
 clear en
 have ek0:bM ⟨aj xs,its⟩ (ah ⟨aj xs,its⟩ f) i 0=gI y.1.n (q:Int):=by
  rw [kW (q:=q) (by rw [aY its K.hx];omega) (by rw [aY its K.hx];exact L)];obtain⟨J,rfl⟩:∃ J,f=J+1:=⟨f - 1,by omega⟩
  have:=uq (T:=⟨aj xs,its⟩) (B:=ah ⟨aj xs,its⟩ J) (i:=q) (by rw [aY its hy];exact hyk.1)
  rw [aY its hy] at this
  exact this
 have ek1:bM ⟨aj xs,its⟩ (ah ⟨aj xs,its⟩ f) i 1=gI z.1.n (j:Int):=by
  rw [kW (q:=j) (by rw [aY its K.hx];omega) (by rw [aY its K.hx];exact M)];obtain⟨J,rfl⟩:∃ J,f=J+1:=⟨f - 1,by omega⟩
  have:=uq (T:=⟨aj xs,its⟩) (B:=ah ⟨aj xs,its⟩ J) (i:=j) (by rw [aY its hz];exact hyk.2)
  rw [aY its hz] at this
  exact this
 rw [ek0,ek1] at hl ⊢
 clear ek0 ek1;have L0:1≤(gI y.1.n (q:Int)).length∧(gI y.1.n (q:Int)).length≤2:=by unfold gI;split <;> simp
 have L1:1≤(gI z.1.n (j:Int)).length∧(gI z.1.n (j:Int)).length≤2:=by unfold gI;split <;> simp
 have gN:=O L0;have rA:=O L1;clear L0 L1;have hi:i < n:=by rw [← X.len];exact (aiq.1 K.hx).1
 obtain⟨b,o,hA,hN⟩:=(X.at_ H.o).nodes (by have:=X.len;omega);have HB:=O hN.lt;obtain⟨Ka,kc,E,hkl,hki⟩:=X.kids H.o K.hx;obtain⟨m,hm⟩:∃ m,m=x.1.kids.length:=⟨_,rfl⟩;obtain⟨kb,P,hKa,hkb,hkc⟩:=hki.ex (by omega);subst hKa;clear hkb hkc;subst hA;have y0:(0:Int)≤(i:Int):=by omega
 have y1:(i:Int) < (n:Int):=by omega
 have hg:=H.o.blk.lt;have EB:=O (show j_ x=#[.int .u8 40,.string (aU x.1.text),.int .i64 x.1.n,.slice (some ⟨kb,P,none⟩) m kc,.int .i64 x.1.at_] from by unfold j_;rw [hk,E,hm];rfl);have iX:=vV i H;have N:=Pt W g i;have I:=O (Pp W g i);have Q:=O hN;have vD:=O E;have nP:=O (show x.1.kind=40 from hk);have G:=O hl;have HX:=O X;have F:=O K;have Y:=O hm;have afD:=O L;have afE:=O M;have Hhy:=O hy;have Hhz:=O hz;have Z:=O hyn;have adY:=O hzn;have hbw:=HB.o;have Fe:=O (show x.2=.slice (some ⟨kb,P,none⟩) m kc from by rw [E,hm]);have IL:=O hkl;clear H E hki hl X K hm hN L M hy hz hyn hzn;go_in
 go_upto_region 1 with (fail)
 generalize (W.alloc (.cells #[.pointer (some ⟨g,0,none⟩)] 56)).alloc (.cells #[.int .i64 (i:Nat)] 3)=w0 at iX N I ⊢
 have c0:w0.cell? ⟨g,0,none⟩=some (.slice (some ⟨b,o,none⟩) n c):=iX.o.blk.cell 0;obtain⟨d2,d3⟩:=jR iX;have jZ:=O N;have ug:g < w0.heap.size:=by omega
 have ub:b < w0.heap.size:=by omega
 have uW:W.heap.size < w0.heap.size:=by omega
 have yM:W.heap.size+1 < w0.heap.size:=by omega
 clear N;have k0:w0.cell? ⟨b,o+i * 5,none⟩=some (.int .u8 40):=by have h:=(Q.o.below I.o).c0 i x F.o.hx;rw [nP.o] at h;exact h
 have k1:w0.cell? ⟨b,o+i * 5+1,none⟩=some (.string (aU x.1.text)):=(Q.o.below I.o).c1 i x F.o.hx;have k2:w0.cell? ⟨b,o+i * 5+2,none⟩=some (.int .i64 x.1.n):=(Q.o.below I.o).c2 i x F.o.hx;have k4:w0.cell? ⟨b,o+i * 5+4,none⟩=some (.int .i64 x.1.at_):=(Q.o.below I.o).c4 i x F.o.hx;have k3:w0.cell? ⟨b,o+i * 5+3,none⟩=some (.slice (some ⟨kb,P,none⟩) m kc):=by rw [Y.o,← vD.o];exact (Q.o.below I.o).c3 i x F.o.hx
 go_region
 have R:=Pq i #[.int .u8 40,.string (aU x.1.text),.int .i64 x.1.n,.slice (some ⟨kb,P,none⟩) m kc,.int .i64 x.1.at_] jZ.o iX;rw [jZ.o]
 generalize (w0.alloc (.cells #[.int .u8 40,.string (aU x.1.text),.int .i64 x.1.n,.slice (some ⟨kb,P,none⟩) m kc,.int .i64 x.1.at_] 39)).drew=D at R ⊢
 clear hbw c0 k0 k1 k2 k3 k4 d2 d3 iX uW yM ug ub jZ I Q HB y0 y1;obtain⟨c2,c3,a,d,k⟩:=cO R;obtain⟨u0,u1,u2⟩:=xlt R;obtain⟨r,t⟩:=qF R;have hmm:=@run_makeMap Tryz.prog;have i0:=NR D;have i1:=NS D;have i2:=NT D;have i3:=NU D;have i4:=NW D;have i5:=NY D;have i6:=NZ D;have hlk:(Instr.lookup 94 (.map (some D.heap.size)) (.int .u8 40) false).run Tryz.prog (D.alloc (.map (gD (eF.take 7) 0).toArray 7))=.ok (.string (aU [99,104,111,111,115,101])) (D.alloc (.map (gD (eF.take 7) 0).toArray 7)):=Dp D 40 _ rfl;go_wp2_with fail;refine (yQ (O (R.o.alloc _)) [99,104,111,111,115,101] (i:Int) (by have:=G.o;simp [ak] at this;omega)).mono ?_;rintro e w1⟨vP,rfl,H1⟩;clear hlk hmm i0 i1 i2 i3 i4 i5 i6 u0 u1 u2 c2 c3 a d k r t R;obtain⟨c2,c3,a,d,k⟩:=cO H1;obtain⟨r,t⟩:=qF H1;go_wp2_with fail;refine (EO H1 x.1.text (-1) (by simp) (by have:=G.o;simp [ak] at this ⊢;omega)).mono ?_;rintro e w2⟨l8,rfl,H2⟩;clear c2 c3 a d k r t H1;obtain⟨c2,c3,a,d,k⟩:=cO H2;obtain⟨r,t⟩:=qF H2;go_wp2_with fail;refine (uO H2 [58] (-1) (by simp) (by have:=G.o;simp [ak] at this ⊢;omega)).mono ?_;rintro e w3⟨sw,rfl,U⟩;clear c2 c3 a d k r t H2;obtain⟨c2,c3,a,d,k⟩:=cO U;obtain⟨r,t⟩:=qF U;have kq:w3.cell? ⟨kb,P,none⟩=some (.int .i64 ((q:Nat):Int)):=HX.o.kq U.o F.o.hx Fe.o afD.o;have ym:(0:Int) < (m:Int):=by have:=Y.o;omega
 have yn:0 < m:=by have:=Y.o;omega
 go_upto_region 9 with (fail)
 go_still_tail 5,(by kernel_rfl)
 change wpList _ _ _ _ _ w3.drew
 have u:=O U.o.drew
 generalize w3.drew=wd4 at u ⊢
 clear c2 c3 a d k r t U;obtain⟨c2,c3,a,d,k⟩:=cO u;obtain⟨r,t⟩:=qF u;clear kq ym yn;go_wp2_with fail;refine (Qi (X6 u HX.o Hhy.o (by have:=Z.o;omega) (by have:=Z.o;omega) (by have:=G.o;have:=gN.o;have:=rA.o;rw [dR];simp [ak] at this ⊢;simp [ak] at *;omega)) (by simp)).mono ?_;rintro e w4⟨B_,rfl,H4⟩;clear c2 c3 a d k r t u;obtain⟨c2,c3,a,d,k⟩:=cO H4;obtain⟨r,t⟩:=qF H4;go_wp2_with fail;refine (uO H4 [46,46] (-1) (by simp) (by have:=G.o;simp [ak] at this ⊢;omega)).mono ?_;rintro e w5⟨pv5,rfl,V⟩;clear c2 c3 a d k r t H4;obtain⟨c2,c3,a,d,k⟩:=cO V;obtain⟨r,t⟩:=qF V;have kq:w5.cell? ⟨kb,P+1,none⟩=some (.int .i64 ((j:Nat):Int)):=HX.o.kq V.o F.o.hx Fe.o afE.o;have ym:(1:Int) < (m:Int):=by have:=Y.o;omega
 have yn:1 < m:=by have:=Y.o;omega
 go_upto_region 11 with (fail)
 go_still_tail 5,(by kernel_rfl)
 change wpList _ _ _ _ _ w5.drew
 have C:=O V.o.drew
 generalize w5.drew=wd6 at C ⊢
 clear c2 c3 a d k r t V;obtain⟨c2,c3,a,d,k⟩:=cO C;obtain⟨r,t⟩:=qF C;clear kq ym yn;go_wp2_with fail;refine (ng2 (Td C HX.o Hhz.o (by have:=adY.o;omega) (by have:=adY.o;omega) (by have:=G.o;have:=gN.o;have:=rA.o;rw [dR];simp [ak] at this ⊢;simp [ak] at *;omega)) (by simp)).mono ?_;rintro e w6⟨pv6,rfl,H6⟩;clear c2 c3 a d k r t C;obtain⟨c2,c3,a,d,k⟩:=cO H6;obtain⟨r,t⟩:=qF H6;go_wp2_with fail;refine (uO H6 [59] (-1) (by simp) (by have:=G.o;simp [ak] at this ⊢;omega)).mono ?_;rintro e w7⟨pv7,rfl,H7⟩;clear c2 c3 a d k r t H6;obtain⟨c2,c3,a,d,k⟩:=cO H7;obtain⟨r,t⟩:=qF H7;go_wp2_with fail;go_end0
 exact⟨_,rfl,O (by have h:=H7.o.xe;simpa [List.append_assoc,dD,tz,lz] using h)⟩
end
end
