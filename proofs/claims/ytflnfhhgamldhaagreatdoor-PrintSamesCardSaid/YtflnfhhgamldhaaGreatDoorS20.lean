/-
  A part of the proof.
-/
import Derived.Test.YtflnfhhgamldhaaGreatDoorS19
set_option linter.all false
set_option maxRecDepth 100000
set_option maxHeartbeats 4000000
set_option linter.all false
namespace Go.Proofs.YtflnfhhgamldhaaGreatDoor
section
open Go.RowKit Mist
attribute [local go_sem] ah aM aV au ak
section
variable {S:Sz} {B g n c f i j q b2 b3 b4 b5 b6 h:Nat} {cs:Array Value} {w W:World} {A Bi:Option Addr} {nv iv pv:Value} {ps l:List Pz} {xs:List NV} {its:List Int} {x y:NV}
theorem acW (H:Hid (PZ S B g w W (.slice A n c) iv pv ps))(X:CX w B A Bi n xs its)(D:xs[i]? = some x)(h4:(b4,58,#[.pointer (some ⟨g,0,none⟩)]) ∈ S)(h6:(b6,50,lg x) ∈ S)
  (t:x.1.kids[j]? = some ((q:Nat):Int)) (F:MC 57 w B g A n c iv ⟨aF xs,its⟩ f q) (C:ps.length+(aQ ⟨aF xs,its⟩ f q).length≤1000000) :
  Calls Tryz.prog 56 #[.int .i64 j,.pointer (some ⟨b4,0,none⟩),.pointer (some ⟨b6,0,none⟩)] W (l7 S B g w (.slice A n c) iv (iG ps (aQ ⟨aF xs,its⟩ f q))):=by
 have c4:=(H.o.kp _ h4).1.cell 0;obtain⟨M,kc,k,r,d⟩:=X.kids H.o D;have J:j < x.1.kids.length:=(akV.1 t).1;have v:W.cell? ⟨b6,3,none⟩=some x.2:=(H.o.kp _ h6).1.cell 3;obtain⟨kb,N,a,K,b⟩:=d.ex (by omega);have kq:=b j _ t;rw [k,a] at v
 simp only at c4
 have Q:(0:Int)≤(j:Int):=by omega
 generalize x.1.kids.length=m at *
 have R:(j:Int) < (m:Int):=by omega
 have E:=O F;have G:=O C;clear C F X d k r b D t a;go_in
 go_still_tail 6,(by kernel_rfl)
 change wpList _ _ _ _ _ W.drew
 have u:=O H.o.drew
 generalize W.drew=w1 at u ⊢
 clear H c4 v kq;go_wp2_with fail;refine (E.o S _ pv ps u G.o).mono ?_;rintro e P⟨L,rfl,I⟩;go_wp2_with fail;go_end0
 exact⟨L,rfl,I⟩
theorem afi (H:Hid (PZ S B g w W (.slice A n c) iv pv ps))(X:CX w B A Bi n xs its)(D:xs[i]? = some x)(h4:(b4,58,#[.pointer (some ⟨g,0,none⟩)]) ∈ S)(h6:(b6,50,lg x) ∈ S)
  (t:x.1.kids[j]? = some ((q:Nat):Int)) (F:MC 57 w B g A n c iv ⟨aF xs,its⟩ f q) (C:ps.length+(aQ ⟨aF xs,its⟩ f q).length≤1000000) :
  Calls Tryz.prog 99 #[.int .i64 j,.pointer (some ⟨b4,0,none⟩),.pointer (some ⟨b6,0,none⟩)] W (l7 S B g w (.slice A n c) iv (iG ps (aQ ⟨aF xs,its⟩ f q))):=by
 have c4:=(H.o.kp _ h4).1.cell 0;obtain⟨M,kc,k,r,d⟩:=X.kids H.o D;have J:j < x.1.kids.length:=(akV.1 t).1;have v:W.cell? ⟨b6,3,none⟩=some x.2:=(H.o.kp _ h6).1.cell 3;obtain⟨kb,N,a,K,b⟩:=d.ex (by omega);have kq:=b j _ t;rw [k,a] at v
 simp only at c4
 have Q:(0:Int)≤(j:Int):=by omega
 generalize x.1.kids.length=m at *
 have R:(j:Int) < (m:Int):=by omega
 have E:=O F;have G:=O C;clear C F X d k r b D t a;go_in
 go_still_tail 6,(by kernel_rfl)
 change wpList _ _ _ _ _ W.drew
 have u:=O H.o.drew
 generalize W.drew=w1 at u ⊢
 clear H c4 v kq;go_wp2_with fail;refine (E.o S _ pv ps u G.o).mono ?_;rintro e P⟨L,rfl,I⟩;go_wp2_with fail;go_end0
 exact⟨L,rfl,I⟩
theorem CX.kq (X:CX w B A Bi n xs its)(H:PZ S B g w W nv iv pv ps)(v:xs[i]? = some x){kb o m kc:Nat}(h2:x.2=.slice (some ⟨kb,o,none⟩) m kc)(k:x.1.kids[j]? = some ((q:Nat):Int)):W.cell? ⟨kb,o+j,none⟩=some (.int .i64 (q:Int)):=by
 obtain⟨F,D,b,u,e⟩:=X.kids H v;rw [h2] at b
 injection b with r G I
 obtain⟨C,E,a,t,d⟩:=e.ex (by have:=(akV.1 k).1;omega);rw [← r] at a
 injection a with a
 injection a with h3 h4
 rw [h3,h4];exact d j _ k
def PK (w:World)(B g:Nat)(A:Option Addr)(n c:Nat)(iv:Value)(xs:List NV)(its:List Int)(f m:Nat)(x:NV):Prop:=∀ j q,j < m→x.1.kids[j]? = some ((q:Nat):Int)→MC 57 w B g A n c iv ⟨aF xs,its⟩ f q
abbrev fS (h g:Nat) (cs:Array Value) (m:Nat) (S:Sz):Sz:=(h+2,3,#[.int .i64 (m:Nat)]) :: (h+1,50,cs) :: (h,58,#[.pointer (some ⟨g,0,none⟩)]) :: S
theorem fsH (cs:Array Value)(m:Nat)(H:Hid (PZ S B g w W nv iv pv ps)):Hid (PZ (fS W.heap.size g cs m S) B g w (((W.alloc (.cells #[.pointer (some ⟨g,0,none⟩)] 58)).alloc (.cells cs 50)).alloc (.cells #[.int .i64 (m:Nat)] 3)) nv iv pv ps):=by
 have a:(W.alloc (.cells #[.pointer (some ⟨g,0,none⟩)] 58)).heap.size=W.heap.size+1:=by simp
 have b:((W.alloc (.cells #[.pointer (some ⟨g,0,none⟩)] 58)).alloc (.cells cs 50)).heap.size=W.heap.size+2:=by simp
 have h3:=((H.o.box (T:=58) (cs:=#[.pointer (some ⟨g,0,none⟩)]) (by decide)).box (T:=50) (cs:=cs) (by decide)).box (T:=3) (cs:=#[.int .i64 (m:Nat)]) (by decide);rw [a,b] at h3
 exact O h3
theorem kJ {m:Nat}(H:Hid (PZ (fS h g cs m S) B g w W nv iv pv ps)):W.cell? ⟨h,0,none⟩=some (.pointer (some ⟨g,0,none⟩))∧W.cell? ⟨h+1,2,none⟩=cs[2]? ∧ W.cell? ⟨h+1,3,none⟩=cs[3]? ∧ W.cell? ⟨h+2,0,none⟩=some (.int .i64 (m:Nat)) :=
 ⟨(H.o.kp _ (List.mem_cons_of_mem _ (List.mem_cons_of_mem _ (List.mem_cons_self ..)))).1.cell 0,(H.o.kp _ (List.mem_cons_of_mem _ (List.mem_cons_self ..))).1.cell 2,(H.o.kp _ (List.mem_cons_of_mem _ (List.mem_cons_self ..))).1.cell 3,(H.o.kp _ (List.mem_cons_self ..)).1.cell 0⟩
theorem fl1 {m:Nat}(H:Hid (PZ S B g w W (.slice A n c) iv pv ps))(X:CX w B A Bi n xs its)(K:KX w B g A n c iv xs its f i x)(Q:¬ (4≤x.1.kind∧x.1.kind≤18)∧x.1.kind ≠ 22∧x.1.kind ≠ 23)(h4:(b4,58,#[.pointer (some ⟨g,0,none⟩)]) ∈ S)(h6:(b6,50,lg x) ∈ S)(h5:(b5,3,#[.int .i64 (m:Nat)]) ∈ S)(E:0 < f)
  (R:m≤x.1.kids.length) (F:PK w B g A n c iv xs its f m x) (r:ps.length+(ig ⟨aF xs,its⟩ (aQ ⟨aF xs,its⟩ f) i m).length < 1000000) :
  Calls Tryz.prog 98 #[.pointer (some ⟨b4,0,none⟩),.pointer (some ⟨b5,0,none⟩),.pointer (some ⟨b6,0,none⟩)] W (l7 S B g w (.slice A n c) iv (iG ps (ig ⟨aF xs,its⟩ (aQ ⟨aF xs,its⟩ f) i m))):=by
 have c4:=(H.o.kp _ h4).1.cell 0;have c5:=(H.o.kp _ h5).1.cell 0;simp only at c4 c5
 obtain⟨M,kc,d,I,b⟩:=X.kids H.o K.hx
 have u:=O (ls1 H 99 #[.pointer (some ⟨b4,0,none⟩),.pointer (some ⟨b6,0,none⟩)] (eO ⟨aF xs,its⟩ (aQ ⟨aF xs,its⟩ f) i) m (K.ne E 0 (.inr rfl)) (by omega) r (fun j C=>by kernel_rfl)
  (fun j C L T G t h=>by
   obtain⟨q,y,a,N,P⟩:=K.k j (by omega);have D:eO ⟨aF xs,its⟩ (aQ ⟨aF xs,its⟩ f) i j=aQ ⟨aF xs,its⟩ f q:=mh (by rw [bI its K.hx];omega) (by rw [bI its K.hx];exact a);rw [D] at t ⊢
   exact afi h X K.hx h4 h6 a (F j q G a) t))
 clear r X K F d b;go_in
 go_wp2_with fail;refine u.o.mono ?_;rintro e U⟨J,rfl,v⟩;go_wp2_with fail;go_end0
 exact⟨J,rfl,v⟩
theorem aeJ {m:Nat}(H:Hid (PZ S B g w W (.slice A n c) iv pv (iG ps l)))(hl0:l ≠ [])(X:CX w B A Bi n xs its)(K:KX w B g A n c iv xs its f i x)(Z:x.1.kind=42)(hm:x.1.kids.length=m+2)(hf:0 < f)(F:PK w B g A n c iv xs its f m x)
  (hq:x.1.kids[m]? = some ((q:Nat):Int)) (G:MC 97 w B g A n c iv ⟨aF xs,its⟩ f q) (E:KE w B g A n c iv xs its f x (m+1)) (n0:-1000000≤x.1.n) (n1:x.1.n≤1000000) (hs:¬ 0 < x.1.n)
  (hl:ps.length+(l ++ tz [40] (-1) :: (dI false (ig ⟨aF xs,its⟩ (aQ ⟨aF xs,its⟩ f) i m) ++ tz [41] (-1) :: tz [58] (-1) :: (dI true (eO ⟨aF xs,its⟩ (aQ ⟨aF xs,its⟩ f) i m) ++ (([]:List Pz) ++ lz [61] (-1) :: dI true (eO ⟨aF xs,its⟩ (aQ ⟨aF xs,its⟩ f) i (m+1)))))).length+1≤1000000) :
  Calls Tryz.prog 58 #[.pointer (some ⟨g,0,none⟩),.int .i64 i,.agg (lg x)] W (l7 S B g w (.slice A n c) iv (iG ps (l ++ tz [40] (-1) :: (dI false (ig ⟨aF xs,its⟩ (aQ ⟨aF xs,its⟩ f) i m) ++ tz [41] (-1) :: tz [58] (-1) :: (dI true (eO ⟨aF xs,its⟩ (aQ ⟨aF xs,its⟩ f) i m) ++ (([]:List Pz) ++ lz [61] (-1) :: dI true (eO ⟨aF xs,its⟩ (aQ ⟨aF xs,its⟩ f) i (m+1)))))))):=by
 obtain⟨Ka,kc,D,hkl,C⟩:=X.kids H.o K.hx;obtain⟨kb,ko,u,hkb,hkc⟩:=C.ex (by omega);obtain⟨M,Y⟩:∃ M,M=x.1.kids.length:=⟨_,rfl⟩;have v:M=m+2:=by rw [Y,hm]
 have r:x.2=.slice (some ⟨kb,ko,none⟩) M kc:=by rw [D,u,Y]
 have V:lg x=#[.int .u8 42,.string (aH x.1.text),.int .i64 x.1.n,.slice (some ⟨kb,ko,none⟩) M kc,.int .i64 x.1.at_]:=by unfold lg;rw [Z,r];rfl
 have EB:=O V;have HS:=fsH #[.int .u8 42,.string (aH x.1.text),.int .i64 x.1.n,.slice (some ⟨kb,ko,none⟩) M kc,.int .i64 x.1.at_] m H;have ws:wrap64 ((M:Int) - 2)=(m:Int):=by unfold wrap64;omega
 have t:eO ⟨aF xs,its⟩ (aQ ⟨aF xs,its⟩ f) i m=aQ ⟨aF xs,its⟩ f q:=mh (by rw [bI its K.hx];omega) (by rw [bI its K.hx];exact hq);rw [t] at hl ⊢
 have k:=O hl;have U:=O X;have T:=O K;have HF:=O F;have HQ:=O hq;have HG:=O G;have HE:=O E;have N0:=O n0;have N1:=O n1;have Kg:=O r;have uo:=O v;have Gq:=O hm;have tV:=O Z;have zs:¬ 0 < x.1.n:=hs;have hmw:m≤x.1.kids.length:=by omega
 rw [V];clear hl X K F hq G E n0 n1 r D C hkc u hkb H Y v hm V t Z hs;go_in
 go_wp2_with fail;refine (vR HS [40] (-1) hl0 (by have:=k.o;simp [aj] at this ⊢;omega)).mono ?_;rintro e w1⟨wP,rfl,L⟩;clear HS;obtain⟨c4,d,a,b⟩:=kJ L;go_wp2_with fail;refine (in2 L 98 #[.pointer (some ⟨W.heap.size,0,none⟩),.pointer (some ⟨W.heap.size+2,0,none⟩),.pointer (some ⟨W.heap.size+1,0,none⟩)] (ig ⟨aF xs,its⟩ (aQ ⟨aF xs,its⟩ f) i m) (by simp) (by have:=k.o;simp [aj] at this ⊢;omega) (fun W'=>by kernel_rfl) (fun W' pv' H'=>fl1 H' U.o T.o (by rw [tV.o];omega) (List.mem_cons_of_mem _ (List.mem_cons_of_mem _ (List.mem_cons_self ..))) (by rw [EB.o];exact List.mem_cons_of_mem _ (List.mem_cons_self ..)) (List.mem_cons_self ..) hf hmw HF.o (by have:=k.o;rw [eU];simp [aj] at this ⊢;omega))).mono ?_;rintro e w2⟨mZ,rfl,N⟩;clear L c4 d a b;obtain⟨c4,d,a,b⟩:=kJ N;go_wp2_with fail;refine (vR N [41] (-1) (by simp) (by have:=k.o;simp [aj] at this ⊢;omega)).mono ?_;rintro e w3⟨tX,rfl,P⟩;clear N c4 d a b;obtain⟨c4,d,a,b⟩:=kJ P;go_wp2_with fail;refine (vR P [58] (-1) (by simp) (by have:=k.o;simp [aj] at this ⊢;omega)).mono ?_;rintro e w4⟨Cw,rfl,I⟩;clear P c4 d a b;obtain⟨c4,d,a,b⟩:=kJ I;have kq:=U.o.kq I.o T.o.hx Kg.o HQ.o;have y0:(0:Int)≤(m:Int):=by omega
 have y1:(m:Int) < (M:Int):=by have:=uo.o;omega
 go_upto_region 6 with (fail)
 go_still_tail 6,(by kernel_rfl)
 change wpList _ _ _ _ _ w4.drew
 have J:=O I.o.drew
 generalize w4.drew=wd at J ⊢
 clear kq y0 y1;clear I c4 d a b;obtain⟨c4,d,a,b⟩:=kJ J;go_wp2_with fail;refine (Sb (HG.o _ _ _ _ J (by have:=k.o;rw [eU];simp [aj] at this ⊢;omega)) (by simp)).mono ?_;rintro e w5⟨pv5,rfl,Q⟩;clear J c4 d a b;obtain⟨c4,d,a,b⟩:=kJ Q;go_wp2_with fail;refine (Gf Q [61] (-1) (by simp) (by have:=k.o;simp [aj] at this ⊢;omega)).mono ?_;rintro e w6⟨pv6,rfl,R⟩;clear Q c4 d a b;obtain⟨c4,d,a,b⟩:=kJ R;have wm:wrap64 ((m:Int)+1)=((m+1:Nat):Int):=by have:=uo.o;have:=Gq.o;unfold wrap64;omega
 go_wp2_with fail;refine (Sb (kd1 R U.o T.o (j:=m+1) (by have:=Gq.o;omega) HE.o (by have:=k.o;rw [eU];simp [aj] at this ⊢;omega)) (by simp)).mono ?_;rintro e w7⟨pv7,rfl,H7⟩;clear R c4 d a b;obtain⟨c4,d,a,b⟩:=kJ H7;go_wp2_with fail;go_end0
 exact⟨_,rfl,O (by have h:=H7.o.tl.tl.tl;simpa [List.append_assoc] using h)⟩
theorem aeK {m:Nat}(H:Hid (PZ S B g w W (.slice A n c) iv pv (iG ps l)))(hl0:l ≠ [])(X:CX w B A Bi n xs its)(K:KX w B g A n c iv xs its f i x)(hk:x.1.kind=42)(hm:x.1.kids.length=m+2)(hf:0 < f)(F:PK w B g A n c iv xs its f m x)
  (hq:x.1.kids[m]? = some ((q:Nat):Int)) (G:MC 97 w B g A n c iv ⟨aF xs,its⟩ f q) (E:KE w B g A n c iv xs its f x (m+1)) (n0:-1000000≤x.1.n) (n1:x.1.n≤1000000) (hs:0 < x.1.n)
  (hl:ps.length+(l ++ tz [40] (-1) :: (dI false (ig ⟨aF xs,its⟩ (aQ ⟨aF xs,its⟩ f) i m) ++ tz [41] (-1) :: tz [58] (-1) :: (dI true (eO ⟨aF xs,its⟩ (aQ ⟨aF xs,its⟩ f) i m) ++ (([lz [117,112,116,111] (-1),lz (Go.Lib.itoa x.1.n) (-1)]:List Pz) ++ lz [61] (-1) :: dI true (eO ⟨aF xs,its⟩ (aQ ⟨aF xs,its⟩ f) i (m+1)))))).length+1≤1000000) :
  Calls Tryz.prog 58 #[.pointer (some ⟨g,0,none⟩),.int .i64 i,.agg (lg x)] W (l7 S B g w (.slice A n c) iv (iG ps (l ++ tz [40] (-1) :: (dI false (ig ⟨aF xs,its⟩ (aQ ⟨aF xs,its⟩ f) i m) ++ tz [41] (-1) :: tz [58] (-1) :: (dI true (eO ⟨aF xs,its⟩ (aQ ⟨aF xs,its⟩ f) i m) ++ (([lz [117,112,116,111] (-1),lz (Go.Lib.itoa x.1.n) (-1)]:List Pz) ++ lz [61] (-1) :: dI true (eO ⟨aF xs,its⟩ (aQ ⟨aF xs,its⟩ f) i (m+1)))))))):=by
 obtain⟨Ka,kc,P,hkl,N⟩:=X.kids H.o K.hx;obtain⟨kb,U,J,hkb,hkc⟩:=N.ex (by omega);obtain⟨M,hM⟩:∃ M,M=x.1.kids.length:=⟨_,rfl⟩;have L:M=m+2:=by rw [hM,hm]
 have t:x.2=.slice (some ⟨kb,U,none⟩) M kc:=by rw [P,J,hM]
 have eb:lg x=#[.int .u8 42,.string (aH x.1.text),.int .i64 x.1.n,.slice (some ⟨kb,U,none⟩) M kc,.int .i64 x.1.at_]:=by unfold lg;rw [hk,t];rfl
 have EB:=O eb;have HS:=fsH #[.int .u8 42,.string (aH x.1.text),.int .i64 x.1.n,.slice (some ⟨kb,U,none⟩) M kc,.int .i64 x.1.at_] m H;have ws:wrap64 ((M:Int) - 2)=(m:Int):=by unfold wrap64;omega
 have I:eO ⟨aF xs,its⟩ (aQ ⟨aF xs,its⟩ f) i m=aQ ⟨aF xs,its⟩ f q:=mh (by rw [bI its K.hx];omega) (by rw [bI its K.hx];exact hq);rw [I] at hl ⊢
 have r:=O hl;have v:=O X;have HK:=O K;have HF:=O F;have HQ:=O hq;have HG:=O G;have HE:=O E;have N0:=O n0;have N1:=O n1;have Kg:=O t;have uo:=O L;have Gq:=O hm;have tV:=O hk;have zs:0 < x.1.n:=hs;have hmw:m≤x.1.kids.length:=by omega
 rw [eb];clear hl X K F hq G E n0 n1 t P N hkc J hkb H hM L hm eb I hk hs;go_in
 go_wp2_with fail;refine (vR HS [40] (-1) hl0 (by have:=r.o;simp [aj] at this ⊢;omega)).mono ?_;rintro e w1⟨wP,rfl,V⟩;clear HS;obtain⟨c4,k,a,d⟩:=kJ V;go_wp2_with fail;refine (in2 V 98 #[.pointer (some ⟨W.heap.size,0,none⟩),.pointer (some ⟨W.heap.size+2,0,none⟩),.pointer (some ⟨W.heap.size+1,0,none⟩)] (ig ⟨aF xs,its⟩ (aQ ⟨aF xs,its⟩ f) i m) (by simp) (by have:=r.o;simp [aj] at this ⊢;omega) (fun W'=>by kernel_rfl) (fun W' pv' H'=>fl1 H' v.o HK.o (by rw [tV.o];omega) (List.mem_cons_of_mem _ (List.mem_cons_of_mem _ (List.mem_cons_self ..))) (by rw [EB.o];exact List.mem_cons_of_mem _ (List.mem_cons_self ..)) (List.mem_cons_self ..) hf hmw HF.o (by have:=r.o;rw [eU];simp [aj] at this ⊢;omega))).mono ?_;rintro e w2⟨mZ,rfl,Y⟩;clear V c4 k a d;obtain⟨c4,k,a,d⟩:=kJ Y;go_wp2_with fail;refine (vR Y [41] (-1) (by simp) (by have:=r.o;simp [aj] at this ⊢;omega)).mono ?_;rintro e w3⟨tX,rfl,Z⟩;clear Y c4 k a d;obtain⟨c4,k,a,d⟩:=kJ Z;go_wp2_with fail;refine (vR Z [58] (-1) (by simp) (by have:=r.o;simp [aj] at this ⊢;omega)).mono ?_;rintro e w4⟨Cw,rfl,Q⟩;clear Z c4 k a d;obtain⟨c4,k,a,d⟩:=kJ Q;have kq:=v.o.kq Q.o HK.o.hx Kg.o HQ.o;have y0:(0:Int)≤(m:Int):=by omega
 have y1:(m:Int) < (M:Int):=by have:=uo.o;omega
 go_upto_region 6 with (fail)
 go_still_tail 6,(by kernel_rfl)
 change wpList _ _ _ _ _ w4.drew
 have R:=O Q.o.drew
 generalize w4.drew=wd at R ⊢
 clear kq y0 y1;clear Q c4 k a d;obtain⟨c4,k,a,d⟩:=kJ R;go_wp2_with fail;refine (Sb (HG.o _ _ _ _ R (by have:=r.o;rw [eU];simp [aj] at this ⊢;omega)) (by simp)).mono ?_;rintro e w5⟨pv5,rfl,H5⟩;clear R c4 k a d;obtain⟨c4,k,a,d⟩:=kJ H5;go_wp2_with fail;refine (Gf H5 [117,112,116,111] (-1) (by simp) (by have:=r.o;simp [aj] at this ⊢;omega)).mono ?_;rintro e w6⟨pv6,rfl,C⟩;clear H5 c4 k a d;obtain⟨c4,k,a,d⟩:=kJ C;have D:=O fun (W2:World) (T:Below w6.heap.size w6 W2)=>wL v.o.pow (C.o.Ki.mono v.o.b) (Nat.le_trans v.o.b C.o.lw) N0.o N1.o T
 go_upto_region 9 with (fail)
 go_region_held3 (fun w'=>w'.cell? ⟨W.heap.size,0,none⟩=some (.pointer (some ⟨g,0,none⟩))∧w'.cell? ⟨W.heap.size+1,2,none⟩=some (.int .i64 x.1.n)) (first | go_keep|(go_split_ands;refine⟨?_,?_⟩ <;> assumption))
  ((first
    | (go_at_call 93
       refine (D.o _ (by (repeat (first|(with_reducible exact Below.refl _ _)|(with_reducible refine Below.drew ?_)));done)).mono ?_;rintro e wA⟨rfl,T⟩;have u:=O (C.o.below T);clear c4 k a d T;obtain⟨c4,k,a,d⟩:=kJ u)
    | (go_at_call 52
       refine (Gf (S:=fS W.heap.size g #[.int .u8 42,.string (aH x.1.text),.int .i64 x.1.n,.slice (some ⟨kb,U,none⟩) M kc,.int .i64 x.1.at_] m S) (by first | exact u | exact O u.o.drew | exact O u.o.drew.drew | exact O (u.o.drewN _)) (Go.Lib.itoa x.1.n) (-1) (by simp) (by have:=r.o;simp [aj] at this ⊢;omega)).mono ?_;rintro e w7⟨pv7,rfl,H7⟩;clear c4 k a d;obtain⟨c4,k,a,d⟩:=kJ H7)))
 all_goals
  clear u D C;go_wp2_with fail;refine (Gf H7 [61] (-1) (by simp) (by have:=r.o;simp [aj] at this ⊢;omega)).mono ?_;rintro e w8⟨pv8,rfl,H8⟩;clear H7 c4 k a d;obtain⟨c4,k,a,d⟩:=kJ H8;have wm:wrap64 ((m:Int)+1)=((m+1:Nat):Int):=by have:=uo.o;have:=Gq.o;unfold wrap64;omega
  go_wp2_with fail;refine (Sb (kd1 H8 v.o HK.o (j:=m+1) (by have:=Gq.o;omega) HE.o (by have:=r.o;rw [eU];simp [aj] at this ⊢;omega)) (by simp)).mono ?_;rintro e w9⟨pv9,rfl,H9⟩;clear H8 c4 k a d;obtain⟨c4,k,a,d⟩:=kJ H9;go_wp2_with fail;go_end0
  exact⟨_,rfl,O (by have h:=H9.o.tl.tl.tl;simpa [List.append_assoc] using h)⟩
end
end
set_option linter.all false
section
open Go.RowKit Mist
attribute [local go_sem] ah aM aV au ak
def fP:List (Nat × Value):=[(40,.string (aH [99,104,111,111,115,101])),(41,.string (aH [116,121,112,101])),(42,.string (aH [102,117,110])),(43,.string (aH [108,101,116])),(44,.string (aH [111,98,115,101,114,118,101])),(45,.string (aH [114,101,116,114,97,99,116])),(46,.string (aH [97,115,107]))]
section
variable {S:Sz} {B g n c f i j q b2 b3 b4 b6 h:Nat} {cs:Array Value} {w W:World} {A Bi:Option Addr} {nv iv pv:Value} {ps l:List Pz} {xs:List NV} {its:List Int} {x y:NV}
theorem P6 (w:World):(Instr.mapUpdate 103 (.map (some w.heap.size)) (.int .u8 40) (.string ⟨#[99,104,111,111,115,101]⟩)).run Tryz.prog (w.alloc (.map #[] 0))=.ok () (w.alloc (.map (iC (fP.take 1) 0).toArray 1)):=mK 103 9 Tryz.underlying103 w fP 0 40 _ rfl rfl
theorem P7 (w:World):(Instr.mapUpdate 103 (.map (some w.heap.size)) (.int .u8 41) (.string ⟨#[116,121,112,101]⟩)).run Tryz.prog (w.alloc (.map (iC (fP.take 1) 0).toArray 1))=.ok () (w.alloc (.map (iC (fP.take 2) 0).toArray 2)):=mK 103 9 Tryz.underlying103 w fP 1 41 _ rfl rfl
theorem P8 (w:World):(Instr.mapUpdate 103 (.map (some w.heap.size)) (.int .u8 42) (.string ⟨#[102,117,110]⟩)).run Tryz.prog (w.alloc (.map (iC (fP.take 2) 0).toArray 2))=.ok () (w.alloc (.map (iC (fP.take 3) 0).toArray 3)):=mK 103 9 Tryz.underlying103 w fP 2 42 _ rfl rfl
theorem P9 (w:World):(Instr.mapUpdate 103 (.map (some w.heap.size)) (.int .u8 43) (.string ⟨#[108,101,116]⟩)).run Tryz.prog (w.alloc (.map (iC (fP.take 3) 0).toArray 3))=.ok () (w.alloc (.map (iC (fP.take 4) 0).toArray 4)):=mK 103 9 Tryz.underlying103 w fP 3 43 _ rfl rfl
theorem P_ (w:World):(Instr.mapUpdate 103 (.map (some w.heap.size)) (.int .u8 44) (.string ⟨#[111,98,115,101,114,118,101]⟩)).run Tryz.prog (w.alloc (.map (iC (fP.take 4) 0).toArray 4))=.ok () (w.alloc (.map (iC (fP.take 5) 0).toArray 5)):=mK 103 9 Tryz.underlying103 w fP 4 44 _ rfl rfl
theorem Qa (w:World):(Instr.mapUpdate 103 (.map (some w.heap.size)) (.int .u8 45) (.string ⟨#[114,101,116,114,97,99,116]⟩)).run Tryz.prog (w.alloc (.map (iC (fP.take 5) 0).toArray 5))=.ok () (w.alloc (.map (iC (fP.take 6) 0).toArray 6)):=mK 103 9 Tryz.underlying103 w fP 5 45 _ rfl rfl
theorem Qb (w:World):(Instr.mapUpdate 103 (.map (some w.heap.size)) (.int .u8 46) (.string ⟨#[97,115,107]⟩)).run Tryz.prog (w.alloc (.map (iC (fP.take 6) 0).toArray 6))=.ok () (w.alloc (.map (iC (fP.take 7) 0).toArray 7)):=mK 103 9 Tryz.underlying103 w fP 6 46 _ rfl rfl
theorem DZ (w:World)(K:Nat)(t:Bs)(h:qW K fP=some (.string (aH t))):(Instr.lookup 103 (.map (some w.heap.size)) (.int .u8 K) false).run Tryz.prog (w.alloc (.map (iC (fP.take 7) 0).toArray 7))=.ok (.string (aH t)) (w.alloc (.map (iC (fP.take 7) 0).toArray 7)):=by
 have a:=Ee 103 9 (.string ByteArray.empty) Tryz.underlying103 (w.alloc (.map (iC (fP.take 7) 0).toArray 7)) (Iy _) fP w.heap.size 7 (heap_alloc_new w _) K;rw [a,h];rfl
theorem xlt (H:Hid (PZ (xS h g i cs S) B g w W nv iv pv ps)):h < W.heap.size∧h+1 < W.heap.size∧h+2 < W.heap.size :=
 ⟨(H.o.kp _ (List.mem_cons_of_mem _ (List.mem_cons_of_mem _ (List.mem_cons_self ..)))).1.lt,(H.o.kp _ (List.mem_cons_of_mem _ (List.mem_cons_self ..))).1.lt,(H.o.kp _ (List.mem_cons_self ..)).1.lt⟩
theorem rR (H:Hid (PZ (xS h g i cs S) B g w W nv iv pv ps)):W.cell? ⟨h+2,3,none⟩=cs[3]? ∧ W.cell? ⟨h+2,4,none⟩=cs[4]? := ⟨(H.o.kp _ (List.mem_cons_self ..)).1.cell 3,(H.o.kp _ (List.mem_cons_self ..)).1.cell 4⟩
theorem ai_ (h g i:Nat)(S:Sz)(e:lg x=cs):(h+2,50,lg x) ∈ xS h g i cs S:=by rw [e];exact List.mem_cons_self ..
theorem E9:Lib.fields [109,117,115,116,32,109,97,121,32,99,111,117,110,116,32,98,111,117,110,100,115,32,118,97,108,117,101,115,32,119,104,121,32,98,108,97,109,101,32,108,111,111,107]=mM.drop 1:=by decide +kernel
theorem VK (w:World)(a:Env w):Calls Tryz.prog 60 #[] w fun e b=>e=.returned (.slice (some ⟨w.heap.size,0,none⟩) 8 8)∧w.alloc (.cells (jM (mM.drop 1)) 9)=b:=by
 go_in
 go_wp2_with (go_at_call 103;refine (Tryz.strings_Fields_laid _ _ ?c1 ?c2 a.tab).mono ?_)
 case c1=>decide +kernel
 case c2=>exact Dv _ (by decide +kernel)
 ·go_ret;simp only [E9];exact⟨rfl,rfl⟩
theorem VJ {w w0 a:World}(t:Env w)(h0:Below w.heap.size w w0)(v:w.heap.size≤w0.heap.size){r:Nat}(o:r < 8)(b:Below w0.heap.size w0 a) :
  Calls Tryz.prog 60 #[] a fun e d=>∃ m,e=.returned (.slice (some ⟨m,0,none⟩) 8 8)∧d.cell? ⟨m,r,none⟩=some (.string (aH (mM.getD (r+1) [])))∧Below w0.heap.size w0 d:=by
 refine (VK a (t.below (h0.trans (b.mono v)))).mono ?_;rintro e C⟨rfl,rfl⟩
 refine⟨_,rfl,?_,b.alloc b.size _⟩
 have u:=(bf.new a 9 (jM (mM.drop 1))).cell r;rw [u,FD _ _ (by show r < 8;exact o)]
 have:∀ k:Fin 8,sg (mM.drop 1) k.val=mM.getD (k.val+1) []:=by decide
 rw [this ⟨r,o⟩]
theorem Gb (H:Hid (PZ S B g w W (.slice A n c) iv pv ps))(X:CX w B A Bi n xs its)(K:KX w B g A n c iv xs its f i x)(V:x.1.kind=45)(hf:0 < f)
  (hl:ps.length+(cZ ⟨aF xs,its⟩ (aQ ⟨aF xs,its⟩ f) i).length≤1000000) :
  Calls Tryz.prog 23 #[.pointer (some ⟨g,0,none⟩),.int .i64 i] W (l7 S B g w (.slice A n c) iv (iG ps (cZ ⟨aF xs,its⟩ (aQ ⟨aF xs,its⟩ f) i))):=by
 have en:=EJ (T:=⟨aF xs,its⟩) (B:=aQ ⟨aF xs,its⟩ f) (i:=i) (by rw [bI its K.hx];exact V)
 try rw [bI its K.hx] at en
 rw [en] at hl ⊢
 clear en;have hi:i < n:=by rw [← X.len];exact (akV.1 K.hx).1
 obtain⟨b,o,hA,R⟩:=(X.at_ H.o).nodes (by have:=X.len;omega);have HB:=O R.lt;obtain⟨I,kc,k,Z,Y⟩:=X.kids H.o K.hx;obtain⟨m,N⟩:∃ m,m=x.1.kids.length:=⟨_,rfl⟩;subst hA;have y0:(0:Int)≤(i:Int):=by omega
 have y1:(i:Int) < (n:Int):=by omega
 have hg:=H.o.blk.lt;have EB:=O (show lg x=#[.int .u8 45,.string (aH x.1.text),.int .i64 x.1.n,.slice I m kc,.int .i64 x.1.at_] from by unfold lg;rw [V,k,N];rfl);have J:=wV i H;have r:=Rq W g i;have t:=O (Ro W g i);have u:=O R;have xL:=O k;have tV:=O (show x.1.kind=45 from V);have Q:=O hl;have HX:=O X;have G:=O K;have HM:=O N;have U:=HB.o;have Kg:=O (show x.2=.slice I m kc from by rw [k,N]);have Ke:=O Z;clear H k Y hl X K N R;go_in
 go_upto_region 1 with (fail)
 generalize (W.alloc (.cells #[.pointer (some ⟨g,0,none⟩)] 58)).alloc (.cells #[.int .i64 (i:Nat)] 3)=w0 at J r t ⊢
 have c0:w0.cell? ⟨g,0,none⟩=some (.slice (some ⟨b,o,none⟩) n c):=J.o.blk.cell 0;obtain⟨d2,d3⟩:=kM J;have lM:=O r;have ug:g < w0.heap.size:=by omega
 have ub:b < w0.heap.size:=by omega
 have uW:W.heap.size < w0.heap.size:=by omega
 have zh:W.heap.size+1 < w0.heap.size:=by omega
 clear r;have k0:w0.cell? ⟨b,o+i * 5,none⟩=some (.int .u8 45):=by have h:=(u.o.below t.o).c0 i x G.o.hx;rw [tV.o] at h;exact h
 have k1:w0.cell? ⟨b,o+i * 5+1,none⟩=some (.string (aH x.1.text)):=(u.o.below t.o).c1 i x G.o.hx;have k2:w0.cell? ⟨b,o+i * 5+2,none⟩=some (.int .i64 x.1.n):=(u.o.below t.o).c2 i x G.o.hx;have k4:w0.cell? ⟨b,o+i * 5+4,none⟩=some (.int .i64 x.1.at_):=(u.o.below t.o).c4 i x G.o.hx;have k3:w0.cell? ⟨b,o+i * 5+3,none⟩=some (.slice I m kc):=by rw [HM.o,← xL.o];exact (u.o.below t.o).c3 i x G.o.hx
 go_region
 have v:=Rp i #[.int .u8 45,.string (aH x.1.text),.int .i64 x.1.n,.slice I m kc,.int .i64 x.1.at_] lM.o J;rw [lM.o]
 generalize (w0.alloc (.cells #[.int .u8 45,.string (aH x.1.text),.int .i64 x.1.n,.slice I m kc,.int .i64 x.1.at_] 50)).drew=d at v ⊢
 clear U c0 k0 k1 k2 k3 k4 d2 d3 J uW zh ug ub lM t u HB y0 y1;obtain⟨c2,c3,a,C,D⟩:=dJ v;obtain⟨u0,u1,u2⟩:=xlt v;obtain⟨E,F⟩:=rR v;have hmm:=@run_makeMap Tryz.prog;have i0:=P6 d;have i1:=P7 d;have i2:=P8 d;have i3:=P9 d;have i4:=P_ d;have i5:=Qa d;have i6:=Qb d;have hlk:(Instr.lookup 103 (.map (some d.heap.size)) (.int .u8 45) false).run Tryz.prog (d.alloc (.map (iC (fP.take 7) 0).toArray 7))=.ok (.string (aH [114,101,116,114,97,99,116])) (d.alloc (.map (iC (fP.take 7) 0).toArray 7)):=DZ d 45 _ rfl;go_wp2_with fail;refine (zC (O (v.o.alloc _)) [114,101,116,114,97,99,116] (i:Int) (by have:=Q.o;simp [aj] at this;omega)).mono ?_;rintro e w1⟨wP,rfl,L⟩;clear hlk hmm i0 i1 i2 i3 i4 i5 i6 u0 u1 u2 c2 c3 a C D E F v;obtain⟨c2,c3,a,C,D⟩:=dJ L;obtain⟨E,F⟩:=rR L;go_wp2_with fail;refine (Gf L x.1.text (-1) (by simp) (by have:=Q.o;simp [aj] at this ⊢;omega)).mono ?_;rintro e w2⟨mZ,rfl,M⟩;clear c2 c3 a C D E F L;obtain⟨c2,c3,a,C,D⟩:=dJ M;obtain⟨E,F⟩:=rR M;go_wp2_with fail;refine (vR M [59] (-1) (by simp) (by have:=Q.o;simp [aj] at this ⊢;omega)).mono ?_;rintro e w3⟨tX,rfl,P⟩;clear c2 c3 a C D E F M;obtain⟨c2,c3,a,C,D⟩:=dJ P;obtain⟨E,F⟩:=rR P;go_wp2_with fail;go_end0
 exact⟨_,rfl,O (by have h:=P.o.xe;simpa [List.append_assoc,ig,tz,lz] using h)⟩
theorem Vk (H:Hid (PZ S B g w W (.slice A n c) iv pv ps))(X:CX w B A Bi n xs its)(K:KX w B g A n c iv xs its f i x)(hk:x.1.kind=43)(hf:0 < f)(hm1:x.1.kids.length=1)(E:∀ j,j < x.1.kids.length→KE w B g A n c iv xs its f x j)
  (hl:ps.length+(cZ ⟨aF xs,its⟩ (aQ ⟨aF xs,its⟩ f) i).length≤1000000) :
  Calls Tryz.prog 23 #[.pointer (some ⟨g,0,none⟩),.int .i64 i] W (l7 S B g w (.slice A n c) iv (iG ps (cZ ⟨aF xs,its⟩ (aQ ⟨aF xs,its⟩ f) i))):=by
 have en:=EG (T:=⟨aF xs,its⟩) (B:=aQ ⟨aF xs,its⟩ f) (i:=i) (by rw [bI its K.hx];exact hk)
 try rw [bI its K.hx] at en
 rw [en] at hl ⊢
 clear en;have hi:i < n:=by rw [← X.len];exact (akV.1 K.hx).1
 obtain⟨b,o,hA,Y⟩:=(X.at_ H.o).nodes (by have:=X.len;omega);have HB:=O Y.lt;obtain⟨L,kc,v,hkl,hki⟩:=X.kids H.o K.hx;obtain⟨m,U⟩:∃ m,m=x.1.kids.length:=⟨_,rfl⟩;subst hA;have y0:(0:Int)≤(i:Int):=by omega
 have y1:(i:Int) < (n:Int):=by omega
 have hg:=H.o.blk.lt;have EB:=O (show lg x=#[.int .u8 43,.string (aH x.1.text),.int .i64 x.1.n,.slice L m kc,.int .i64 x.1.at_] from by unfold lg;rw [hk,v,U];rfl);have M:=wV i H;have C:=Rq W g i;have D:=O (Ro W g i);have G:=O Y;have xL:=O v;have tV:=O (show x.1.kind=43 from hk);have J:=O hl;have HX:=O X;have F:=O K;have HM:=O U;have HE:=O E;have Z:=HB.o;have Kg:=O (show x.2=.slice L m kc from by rw [v,U]);have Ke:=O hkl;clear H v hki hl X K U Y E;go_in
 go_upto_region 1 with (fail)
 generalize (W.alloc (.cells #[.pointer (some ⟨g,0,none⟩)] 58)).alloc (.cells #[.int .i64 (i:Nat)] 3)=w0 at M C D ⊢
 have c0:w0.cell? ⟨g,0,none⟩=some (.slice (some ⟨b,o,none⟩) n c):=M.o.blk.cell 0;obtain⟨d2,d3⟩:=kM M;have lM:=O C;have ug:g < w0.heap.size:=by omega
 have ub:b < w0.heap.size:=by omega
 have uW:W.heap.size < w0.heap.size:=by omega
 have zh:W.heap.size+1 < w0.heap.size:=by omega
 clear C;have k0:w0.cell? ⟨b,o+i * 5,none⟩=some (.int .u8 43):=by have h:=(G.o.below D.o).c0 i x F.o.hx;rw [tV.o] at h;exact h
 have k1:w0.cell? ⟨b,o+i * 5+1,none⟩=some (.string (aH x.1.text)):=(G.o.below D.o).c1 i x F.o.hx;have k2:w0.cell? ⟨b,o+i * 5+2,none⟩=some (.int .i64 x.1.n):=(G.o.below D.o).c2 i x F.o.hx;have k4:w0.cell? ⟨b,o+i * 5+4,none⟩=some (.int .i64 x.1.at_):=(G.o.below D.o).c4 i x F.o.hx;have k3:w0.cell? ⟨b,o+i * 5+3,none⟩=some (.slice L m kc):=by rw [HM.o,← xL.o];exact (G.o.below D.o).c3 i x F.o.hx
 go_region
 have I:=Rp i #[.int .u8 43,.string (aH x.1.text),.int .i64 x.1.n,.slice L m kc,.int .i64 x.1.at_] lM.o M;rw [lM.o]
 generalize (w0.alloc (.cells #[.int .u8 43,.string (aH x.1.text),.int .i64 x.1.n,.slice L m kc,.int .i64 x.1.at_] 50)).drew=d at I ⊢
 clear Z c0 k0 k1 k2 k3 k4 d2 d3 M uW zh ug ub lM D G HB y0 y1;obtain⟨c2,c3,a,k,r⟩:=dJ I;obtain⟨u0,u1,u2⟩:=xlt I;obtain⟨t,u⟩:=rR I;have hmm:=@run_makeMap Tryz.prog;have i0:=P6 d;have i1:=P7 d;have i2:=P8 d;have i3:=P9 d;have i4:=P_ d;have i5:=Qa d;have i6:=Qb d;have hlk:(Instr.lookup 103 (.map (some d.heap.size)) (.int .u8 43) false).run Tryz.prog (d.alloc (.map (iC (fP.take 7) 0).toArray 7))=.ok (.string (aH [108,101,116])) (d.alloc (.map (iC (fP.take 7) 0).toArray 7)):=DZ d 43 _ rfl;go_wp2_with fail;refine (zC (O (I.o.alloc _)) [108,101,116] (i:Int) (by have:=J.o;simp [aj] at this;omega)).mono ?_;rintro e w1⟨wP,rfl,N⟩;clear hlk hmm i0 i1 i2 i3 i4 i5 i6 u0 u1 u2 c2 c3 a k r t u I;obtain⟨c2,c3,a,k,r⟩:=dJ N;obtain⟨t,u⟩:=rR N;go_wp2_with fail;refine (Gf N x.1.text (-1) (by simp) (by have:=J.o;simp [aj] at this ⊢;omega)).mono ?_;rintro e w2⟨mZ,rfl,P⟩;clear c2 c3 a k r t u N;obtain⟨c2,c3,a,k,r⟩:=dJ P;obtain⟨t,u⟩:=rR P;go_wp2_with fail;refine (Gf P [61] (-1) (by simp) (by have:=J.o;simp [aj] at this ⊢;omega)).mono ?_;rintro e w3⟨tX,rfl,Q⟩;clear c2 c3 a k r t u P;obtain⟨c2,c3,a,k,r⟩:=dJ Q;obtain⟨t,u⟩:=rR Q;go_wp2_with fail;refine (Sb (kd1 Q HX.o F.o (j:=0) (by omega) (HE.o 0 (by omega)) (by have:=J.o;rw [eU];simp [aj] at this ⊢;omega)) (by simp)).mono ?_;rintro e w4⟨Cw,rfl,R⟩;clear c2 c3 a k r t u Q;obtain⟨c2,c3,a,k,r⟩:=dJ R;obtain⟨t,u⟩:=rR R;go_wp2_with fail;refine (vR R [59] (-1) (by simp) (by have:=J.o;simp [aj] at this ⊢;omega)).mono ?_;rintro e w5⟨pv5,rfl,V⟩;clear c2 c3 a k r t u R;obtain⟨c2,c3,a,k,r⟩:=dJ V;obtain⟨t,u⟩:=rR V;go_wp2_with fail;go_end0
 exact⟨_,rfl,O (by have h:=V.o.xe;simpa [List.append_assoc,ig,tz,lz] using h)⟩
theorem Ga (H:Hid (PZ S B g w W (.slice A n c) iv pv ps))(X:CX w B A Bi n xs its)(K:KX w B g A n c iv xs its f i x)(hk:x.1.kind=44)(hf:0 < f)(hm1:x.1.kids.length=1)(E:∀ j,j < x.1.kids.length→KE w B g A n c iv xs its f x j)
  (hl:ps.length+(cZ ⟨aF xs,its⟩ (aQ ⟨aF xs,its⟩ f) i).length≤1000000) :
  Calls Tryz.prog 23 #[.pointer (some ⟨g,0,none⟩),.int .i64 i] W (l7 S B g w (.slice A n c) iv (iG ps (cZ ⟨aF xs,its⟩ (aQ ⟨aF xs,its⟩ f) i))):=by
 have en:=EH (T:=⟨aF xs,its⟩) (B:=aQ ⟨aF xs,its⟩ f) (i:=i) (by rw [bI its K.hx];exact hk)
 try rw [bI its K.hx] at en
 rw [en] at hl ⊢
 clear en;have hi:i < n:=by rw [← X.len];exact (akV.1 K.hx).1
 obtain⟨b,o,hA,Y⟩:=(X.at_ H.o).nodes (by have:=X.len;omega);have HB:=O Y.lt;obtain⟨L,kc,v,hkl,hki⟩:=X.kids H.o K.hx;obtain⟨m,U⟩:∃ m,m=x.1.kids.length:=⟨_,rfl⟩;subst hA;have y0:(0:Int)≤(i:Int):=by omega
 have y1:(i:Int) < (n:Int):=by omega
 have hg:=H.o.blk.lt;have EB:=O (show lg x=#[.int .u8 44,.string (aH x.1.text),.int .i64 x.1.n,.slice L m kc,.int .i64 x.1.at_] from by unfold lg;rw [hk,v,U];rfl);have M:=wV i H;have C:=Rq W g i;have D:=O (Ro W g i);have G:=O Y;have xL:=O v;have tV:=O (show x.1.kind=44 from hk);have J:=O hl;have HX:=O X;have F:=O K;have HM:=O U;have HE:=O E;have Z:=HB.o;have Kg:=O (show x.2=.slice L m kc from by rw [v,U]);have Ke:=O hkl;clear H v hki hl X K U Y E;go_in
 go_upto_region 1 with (fail)
 generalize (W.alloc (.cells #[.pointer (some ⟨g,0,none⟩)] 58)).alloc (.cells #[.int .i64 (i:Nat)] 3)=w0 at M C D ⊢
 have c0:w0.cell? ⟨g,0,none⟩=some (.slice (some ⟨b,o,none⟩) n c):=M.o.blk.cell 0;obtain⟨d2,d3⟩:=kM M;have lM:=O C;have ug:g < w0.heap.size:=by omega
 have ub:b < w0.heap.size:=by omega
 have uW:W.heap.size < w0.heap.size:=by omega
 have zh:W.heap.size+1 < w0.heap.size:=by omega
 clear C;have k0:w0.cell? ⟨b,o+i * 5,none⟩=some (.int .u8 44):=by have h:=(G.o.below D.o).c0 i x F.o.hx;rw [tV.o] at h;exact h
 have k1:w0.cell? ⟨b,o+i * 5+1,none⟩=some (.string (aH x.1.text)):=(G.o.below D.o).c1 i x F.o.hx;have k2:w0.cell? ⟨b,o+i * 5+2,none⟩=some (.int .i64 x.1.n):=(G.o.below D.o).c2 i x F.o.hx;have k4:w0.cell? ⟨b,o+i * 5+4,none⟩=some (.int .i64 x.1.at_):=(G.o.below D.o).c4 i x F.o.hx;have k3:w0.cell? ⟨b,o+i * 5+3,none⟩=some (.slice L m kc):=by rw [HM.o,← xL.o];exact (G.o.below D.o).c3 i x F.o.hx
 go_region
 have I:=Rp i #[.int .u8 44,.string (aH x.1.text),.int .i64 x.1.n,.slice L m kc,.int .i64 x.1.at_] lM.o M;rw [lM.o]
 generalize (w0.alloc (.cells #[.int .u8 44,.string (aH x.1.text),.int .i64 x.1.n,.slice L m kc,.int .i64 x.1.at_] 50)).drew=d at I ⊢
 clear Z c0 k0 k1 k2 k3 k4 d2 d3 M uW zh ug ub lM D G HB y0 y1;obtain⟨c2,c3,a,k,r⟩:=dJ I;obtain⟨u0,u1,u2⟩:=xlt I;obtain⟨t,u⟩:=rR I;have hmm:=@run_makeMap Tryz.prog;have i0:=P6 d;have i1:=P7 d;have i2:=P8 d;have i3:=P9 d;have i4:=P_ d;have i5:=Qa d;have i6:=Qb d;have hlk:(Instr.lookup 103 (.map (some d.heap.size)) (.int .u8 44) false).run Tryz.prog (d.alloc (.map (iC (fP.take 7) 0).toArray 7))=.ok (.string (aH [111,98,115,101,114,118,101])) (d.alloc (.map (iC (fP.take 7) 0).toArray 7)):=DZ d 44 _ rfl;go_wp2_with fail;refine (zC (O (I.o.alloc _)) [111,98,115,101,114,118,101] (i:Int) (by have:=J.o;simp [aj] at this;omega)).mono ?_;rintro e w1⟨wP,rfl,N⟩;clear hlk hmm i0 i1 i2 i3 i4 i5 i6 u0 u1 u2 c2 c3 a k r t u I;obtain⟨c2,c3,a,k,r⟩:=dJ N;obtain⟨t,u⟩:=rR N;go_wp2_with fail;refine (Gf N x.1.text (-1) (by simp) (by have:=J.o;simp [aj] at this ⊢;omega)).mono ?_;rintro e w2⟨mZ,rfl,P⟩;clear c2 c3 a k r t u N;obtain⟨c2,c3,a,k,r⟩:=dJ P;obtain⟨t,u⟩:=rR P;go_wp2_with fail;refine (vR P [58] (-1) (by simp) (by have:=J.o;simp [aj] at this ⊢;omega)).mono ?_;rintro e w3⟨tX,rfl,Q⟩;clear c2 c3 a k r t u P;obtain⟨c2,c3,a,k,r⟩:=dJ Q;obtain⟨t,u⟩:=rR Q;go_wp2_with fail;refine (Sb (kd1 Q HX.o F.o (j:=0) (by omega) (HE.o 0 (by omega)) (by have:=J.o;rw [eU];simp [aj] at this ⊢;omega)) (by simp)).mono ?_;rintro e w4⟨Cw,rfl,R⟩;clear c2 c3 a k r t u Q;obtain⟨c2,c3,a,k,r⟩:=dJ R;obtain⟨t,u⟩:=rR R;go_wp2_with fail;refine (vR R [59] (-1) (by simp) (by have:=J.o;simp [aj] at this ⊢;omega)).mono ?_;rintro e w5⟨pv5,rfl,V⟩;clear c2 c3 a k r t u R;obtain⟨c2,c3,a,k,r⟩:=dJ V;obtain⟨t,u⟩:=rR V;go_wp2_with fail;go_end0
 exact⟨_,rfl,O (by have h:=V.o.xe;simpa [List.append_assoc,ig,tz,lz] using h)⟩
theorem Qx (H:Hid (PZ S B g w W (.slice A n c) iv pv ps))(X:CX w B A Bi n xs its)(K:KX w B g A n c iv xs its f i x)(hk:x.1.kind=41)(hf:0 < f)(hm1:1≤x.1.kids.length)(F:PK w B g A n c iv xs its f x.1.kids.length x)
  (hl:ps.length+(cZ ⟨aF xs,its⟩ (aQ ⟨aF xs,its⟩ f) i).length≤1000000) :
  Calls Tryz.prog 23 #[.pointer (some ⟨g,0,none⟩),.int .i64 i] W (l7 S B g w (.slice A n c) iv (iG ps (cZ ⟨aF xs,its⟩ (aQ ⟨aF xs,its⟩ f) i))):=by
 have en:=ED (T:=⟨aF xs,its⟩) (B:=aQ ⟨aF xs,its⟩ f) (i:=i) (by rw [bI its K.hx];exact hk)
 try rw [bI its K.hx] at en
 rw [en] at hl ⊢
 clear en;have hi:i < n:=by rw [← X.len];exact (akV.1 K.hx).1
 obtain⟨b,o,hA,hN⟩:=(X.at_ H.o).nodes (by have:=X.len;omega);have HB:=O hN.lt;obtain⟨N,kc,D,hkl,hki⟩:=X.kids H.o K.hx;obtain⟨m,Y⟩:∃ m,m=x.1.kids.length:=⟨_,rfl⟩;subst hA;have y0:(0:Int)≤(i:Int):=by omega
 have y1:(i:Int) < (n:Int):=by omega
 have hg:=H.o.blk.lt;have EB:=O (show lg x=#[.int .u8 41,.string (aH x.1.text),.int .i64 x.1.n,.slice N m kc,.int .i64 x.1.at_] from by unfold lg;rw [hk,D,Y];rfl);have P:=wV i H;have G:=Rq W g i;have I:=O (Ro W g i);have J:=O hN;have xL:=O D;have tV:=O (show x.1.kind=41 from hk);have M:=O hl;have HX:=O X;have r:=O K;have E:=O Y;have HF:=O F;have hbw:=HB.o;have Kg:=O (show x.2=.slice N m kc from by rw [D,Y]);have Ke:=O hkl;clear H D hki hl X K Y hN F;go_in
 go_upto_region 1 with (fail)
 generalize (W.alloc (.cells #[.pointer (some ⟨g,0,none⟩)] 58)).alloc (.cells #[.int .i64 (i:Nat)] 3)=w0 at P G I ⊢
 have c0:w0.cell? ⟨g,0,none⟩=some (.slice (some ⟨b,o,none⟩) n c):=P.o.blk.cell 0;obtain⟨d2,d3⟩:=kM P;have lM:=O G;have ug:g < w0.heap.size:=by omega
 have ub:b < w0.heap.size:=by omega
 have uW:W.heap.size < w0.heap.size:=by omega
 have zh:W.heap.size+1 < w0.heap.size:=by omega
 clear G;have k0:w0.cell? ⟨b,o+i * 5,none⟩=some (.int .u8 41):=by have h:=(J.o.below I.o).c0 i x r.o.hx;rw [tV.o] at h;exact h
 have k1:w0.cell? ⟨b,o+i * 5+1,none⟩=some (.string (aH x.1.text)):=(J.o.below I.o).c1 i x r.o.hx;have k2:w0.cell? ⟨b,o+i * 5+2,none⟩=some (.int .i64 x.1.n):=(J.o.below I.o).c2 i x r.o.hx;have k4:w0.cell? ⟨b,o+i * 5+4,none⟩=some (.int .i64 x.1.at_):=(J.o.below I.o).c4 i x r.o.hx;have k3:w0.cell? ⟨b,o+i * 5+3,none⟩=some (.slice N m kc):=by rw [E.o,← xL.o];exact (J.o.below I.o).c3 i x r.o.hx
 go_region
 have L:=Rp i #[.int .u8 41,.string (aH x.1.text),.int .i64 x.1.n,.slice N m kc,.int .i64 x.1.at_] lM.o P;rw [lM.o]
 generalize (w0.alloc (.cells #[.int .u8 41,.string (aH x.1.text),.int .i64 x.1.n,.slice N m kc,.int .i64 x.1.at_] 50)).drew=d at L ⊢
 clear hbw c0 k0 k1 k2 k3 k4 d2 d3 P uW zh ug ub lM I J HB y0 y1;obtain⟨c2,c3,a,t,u⟩:=dJ L;obtain⟨u0,u1,u2⟩:=xlt L;obtain⟨v,C⟩:=rR L;have hmm:=@run_makeMap Tryz.prog;have i0:=P6 d;have i1:=P7 d;have i2:=P8 d;have i3:=P9 d;have i4:=P_ d;have i5:=Qa d;have i6:=Qb d;have hlk:(Instr.lookup 103 (.map (some d.heap.size)) (.int .u8 41) false).run Tryz.prog (d.alloc (.map (iC (fP.take 7) 0).toArray 7))=.ok (.string (aH [116,121,112,101])) (d.alloc (.map (iC (fP.take 7) 0).toArray 7)):=DZ d 41 _ rfl;go_wp2_with fail;refine (zC (O (L.o.alloc _)) [116,121,112,101] (i:Int) (by have:=M.o;simp [aj] at this;omega)).mono ?_;rintro e w1⟨wP,rfl,Q⟩;clear hlk hmm i0 i1 i2 i3 i4 i5 i6 u0 u1 u2 c2 c3 a t u v C L;obtain⟨c2,c3,a,t,u⟩:=dJ Q;obtain⟨v,C⟩:=rR Q;go_wp2_with fail;refine (Gf Q x.1.text (-1) (by simp) (by have:=M.o;simp [aj] at this ⊢;omega)).mono ?_;rintro e w2⟨mZ,rfl,R⟩;clear c2 c3 a t u v C Q;obtain⟨c2,c3,a,t,u⟩:=dJ R;obtain⟨v,C⟩:=rR R;go_wp2_with fail;refine (Gf R [61] (-1) (by simp) (by have:=M.o;simp [aj] at this ⊢;omega)).mono ?_;rintro e w3⟨tX,rfl,U⟩;clear c2 c3 a t u v C R;obtain⟨c2,c3,a,t,u⟩:=dJ U;obtain⟨v,C⟩:=rR U;go_wp2_with fail
 refine (K4 false U (by simp) 56 #[.pointer (some ⟨W.heap.size,0,none⟩),.pointer (some ⟨W.heap.size+2,0,none⟩)] (eO ⟨aF xs,its⟩ (aQ ⟨aF xs,its⟩ f) i) m (r.o.ne hf 0 (.inr rfl)) (by have:=M.o;rw [E.o];simp [aj,ig] at this ⊢;omega) (by rw [E.o];exact Ke.o) (fun j W'=>by kernel_rfl)
   (fun S' j W' pv' qs hs hj hq h=>by
    obtain⟨q,y,e1,e2,e3⟩:=r.o.k j (by rw [← E.o];exact hj);have ek:eO ⟨aF xs,its⟩ (aQ ⟨aF xs,its⟩ f) i j=aQ ⟨aF xs,its⟩ f q:=mh (by rw [bI its r.o.hx];omega) (by rw [bI its r.o.hx];exact e1);rw [ek] at hq ⊢
    exact acW h HX.o r.o.hx (hs _ (Gn _ _ _ _ _)) (hs _ (ai_ _ _ _ _ EB.o)) e1 (HF.o j q (by rw [← E.o];exact hj) e1) hq)).mono ?_
 rintro e w4⟨Cw,rfl,V⟩;clear c2 c3 a t u v C U;obtain⟨c2,c3,a,t,u⟩:=dJ V;obtain⟨v,C⟩:=rR V;go_wp2_with fail;refine (vR V [59] (-1) (by simp) (by have:=M.o;rw [E.o];simp [aj,ig] at this ⊢;omega)).mono ?_;rintro e w5⟨pv5,rfl,Z⟩;clear c2 c3 a t u v C V;obtain⟨c2,c3,a,t,u⟩:=dJ Z;obtain⟨v,C⟩:=rR Z;go_wp2_with fail;go_end0
 exact⟨_,rfl,O (by have h:=Z.o.xe;rw [E.o] at h;simpa [List.append_assoc,ig,tz,lz] using h)⟩
theorem ng2 {a:Nat}{args:Array Value}{r:List Pz}(b:Calls Tryz.prog a args W (l7 S B g w nv iv (iG ps l ++ dI false r)))(d:l ≠ []):Calls Tryz.prog a args W (l7 S B g w nv iv (iG ps (l ++ dI false r))):=by
 rw [vC ps d];exact b
theorem JN {z:NV}(H:Hid (PZ S B g w W (.slice A n c) iv pv ps))(X:CX w B A Bi n xs its)(K:KX w B g A n c iv xs its f i x)(hk:x.1.kind=40)(hf:0 < f)(hm1:x.1.kids.length=2)(I:x.1.kids[0]? = some ((q:Nat):Int))(hy:xs[q]? = some y)(J:x.1.kids[1]? = some ((j:Nat):Int))(hz:xs[j]? = some z)(hf2:q+1 < f∧j+1 < f)(hyk:y.1.kind=1∧z.1.kind=1)(hyn:-9999≤y.1.n∧y.1.n≤9999)(hzn:-9999≤z.1.n∧z.1.n≤9999)
  (hl:ps.length+(cZ ⟨aF xs,its⟩ (aQ ⟨aF xs,its⟩ f) i).length≤1000000) :
  Calls Tryz.prog 23 #[.pointer (some ⟨g,0,none⟩),.int .i64 i] W (l7 S B g w (.slice A n c) iv (iG ps (cZ ⟨aF xs,its⟩ (aQ ⟨aF xs,its⟩ f) i))):=by
 have en:=EA (T:=⟨aF xs,its⟩) (B:=aQ ⟨aF xs,its⟩ f) (i:=i) (by rw [bI its K.hx];exact hk)
 try rw [bI its K.hx] at en
 rw [en] at hl ⊢
 clear en
 have ek0:eO ⟨aF xs,its⟩ (aQ ⟨aF xs,its⟩ f) i 0=nL y.1.n (q:Int):=by
  rw [mh (q:=q) (by rw [bI its K.hx];omega) (by rw [bI its K.hx];exact I)];obtain⟨G,rfl⟩:∃ G,f=G+1:=⟨f - 1,by omega⟩
  have:=yM (T:=⟨aF xs,its⟩) (B:=aQ ⟨aF xs,its⟩ G) (i:=q) (by rw [bI its hy];exact hyk.1)
  rw [bI its hy] at this
  exact this
 have ek1:eO ⟨aF xs,its⟩ (aQ ⟨aF xs,its⟩ f) i 1=nL z.1.n (j:Int):=by
  rw [mh (q:=j) (by rw [bI its K.hx];omega) (by rw [bI its K.hx];exact J)];obtain⟨G,rfl⟩:∃ G,f=G+1:=⟨f - 1,by omega⟩
  have:=yM (T:=⟨aF xs,its⟩) (B:=aQ ⟨aF xs,its⟩ G) (i:=j) (by rw [bI its hz];exact hyk.2)
  rw [bI its hz] at this
  exact this
 rw [ek0,ek1] at hl ⊢
 clear ek0 ek1;have L0:1≤(nL y.1.n (q:Int)).length∧(nL y.1.n (q:Int)).length≤2:=by unfold nL;split <;> simp
 have L1:1≤(nL z.1.n (j:Int)).length∧(nL z.1.n (j:Int)).length≤2:=by unfold nL;split <;> simp
 have ni:=O L0;have vM:=O L1;clear L0 L1;have hi:i < n:=by rw [← X.len];exact (akV.1 K.hx).1
 obtain⟨b,o,hA,hN⟩:=(X.at_ H.o).nodes (by have:=X.len;omega);have HB:=O hN.lt;obtain⟨Ka,kc,D,hkl,hki⟩:=X.kids H.o K.hx;obtain⟨m,hm⟩:∃ m,m=x.1.kids.length:=⟨_,rfl⟩;obtain⟨kb,N,hKa,hkb,hkc⟩:=hki.ex (by omega);subst hKa;clear hkb hkc;subst hA;have y0:(0:Int)≤(i:Int):=by omega
 have y1:(i:Int) < (n:Int):=by omega
 have hg:=H.o.blk.lt;have EB:=O (show lg x=#[.int .u8 40,.string (aH x.1.text),.int .i64 x.1.n,.slice (some ⟨kb,N,none⟩) m kc,.int .i64 x.1.at_] from by unfold lg;rw [hk,D,hm];rfl);have jR:=wV i H;have L:=Rq W g i;have M:=O (Ro W g i);have P:=O hN;have xL:=O D;have tV:=O (show x.1.kind=40 from hk);have F:=O hl;have HX:=O X;have E:=O K;have V:=O hm;have ahA:=O I;have ahB:=O J;have Hhy:=O hy;have Hhz:=O hz;have Y:=O hyn;have Z:=O hzn;have hbw:=HB.o;have Kg:=O (show x.2=.slice (some ⟨kb,N,none⟩) m kc from by rw [D,hm]);have Ke:=O hkl;clear H D hki hl X K hm hN I J hy hz hyn hzn;go_in
 go_upto_region 1 with (fail)
 generalize (W.alloc (.cells #[.pointer (some ⟨g,0,none⟩)] 58)).alloc (.cells #[.int .i64 (i:Nat)] 3)=w0 at jR L M ⊢
 have c0:w0.cell? ⟨g,0,none⟩=some (.slice (some ⟨b,o,none⟩) n c):=jR.o.blk.cell 0;obtain⟨d2,d3⟩:=kM jR;have lM:=O L;have ug:g < w0.heap.size:=by omega
 have ub:b < w0.heap.size:=by omega
 have uW:W.heap.size < w0.heap.size:=by omega
 have zh:W.heap.size+1 < w0.heap.size:=by omega
 clear L;have k0:w0.cell? ⟨b,o+i * 5,none⟩=some (.int .u8 40):=by have h:=(P.o.below M.o).c0 i x E.o.hx;rw [tV.o] at h;exact h
 have k1:w0.cell? ⟨b,o+i * 5+1,none⟩=some (.string (aH x.1.text)):=(P.o.below M.o).c1 i x E.o.hx;have k2:w0.cell? ⟨b,o+i * 5+2,none⟩=some (.int .i64 x.1.n):=(P.o.below M.o).c2 i x E.o.hx;have k4:w0.cell? ⟨b,o+i * 5+4,none⟩=some (.int .i64 x.1.at_):=(P.o.below M.o).c4 i x E.o.hx;have k3:w0.cell? ⟨b,o+i * 5+3,none⟩=some (.slice (some ⟨kb,N,none⟩) m kc):=by rw [V.o,← xL.o];exact (P.o.below M.o).c3 i x E.o.hx
 go_region
 have Q:=Rp i #[.int .u8 40,.string (aH x.1.text),.int .i64 x.1.n,.slice (some ⟨kb,N,none⟩) m kc,.int .i64 x.1.at_] lM.o jR;rw [lM.o]
 generalize (w0.alloc (.cells #[.int .u8 40,.string (aH x.1.text),.int .i64 x.1.n,.slice (some ⟨kb,N,none⟩) m kc,.int .i64 x.1.at_] 50)).drew=C at Q ⊢
 clear hbw c0 k0 k1 k2 k3 k4 d2 d3 jR uW zh ug ub lM M P HB y0 y1;obtain⟨c2,c3,a,d,k⟩:=dJ Q;obtain⟨u0,u1,u2⟩:=xlt Q;obtain⟨r,t⟩:=rR Q;have hmm:=@run_makeMap Tryz.prog;have i0:=P6 C;have i1:=P7 C;have i2:=P8 C;have i3:=P9 C;have i4:=P_ C;have i5:=Qa C;have i6:=Qb C;have hlk:(Instr.lookup 103 (.map (some C.heap.size)) (.int .u8 40) false).run Tryz.prog (C.alloc (.map (iC (fP.take 7) 0).toArray 7))=.ok (.string (aH [99,104,111,111,115,101])) (C.alloc (.map (iC (fP.take 7) 0).toArray 7)):=DZ C 40 _ rfl;go_wp2_with fail;refine (zC (O (Q.o.alloc _)) [99,104,111,111,115,101] (i:Int) (by have:=F.o;simp [aj] at this;omega)).mono ?_;rintro e w1⟨wP,rfl,H1⟩;clear hlk hmm i0 i1 i2 i3 i4 i5 i6 u0 u1 u2 c2 c3 a d k r t Q;obtain⟨c2,c3,a,d,k⟩:=dJ H1;obtain⟨r,t⟩:=rR H1;go_wp2_with fail;refine (Gf H1 x.1.text (-1) (by simp) (by have:=F.o;simp [aj] at this ⊢;omega)).mono ?_;rintro e w2⟨mZ,rfl,H2⟩;clear c2 c3 a d k r t H1;obtain⟨c2,c3,a,d,k⟩:=dJ H2;obtain⟨r,t⟩:=rR H2;go_wp2_with fail;refine (vR H2 [58] (-1) (by simp) (by have:=F.o;simp [aj] at this ⊢;omega)).mono ?_;rintro e w3⟨tX,rfl,R⟩;clear c2 c3 a d k r t H2;obtain⟨c2,c3,a,d,k⟩:=dJ R;obtain⟨r,t⟩:=rR R;have kq:w3.cell? ⟨kb,N,none⟩=some (.int .i64 ((q:Nat):Int)):=HX.o.kq R.o E.o.hx Kg.o ahA.o;have ym:(0:Int) < (m:Int):=by have:=V.o;omega
 have yn:0 < m:=by have:=V.o;omega
 go_upto_region 9 with (fail)
 go_still_tail 5,(by kernel_rfl)
 change wpList _ _ _ _ _ w3.drew
 have u:=O R.o.drew
 generalize w3.drew=wd4 at u ⊢
 clear c2 c3 a d k r t R;obtain⟨c2,c3,a,d,k⟩:=dJ u;obtain⟨r,t⟩:=rR u;clear kq ym yn;go_wp2_with fail;refine (Sb (aag u HX.o Hhy.o (by have:=Y.o;omega) (by have:=Y.o;omega) (by have:=F.o;have:=ni.o;have:=vM.o;rw [eU];simp [aj] at this ⊢;simp [aj] at *;omega)) (by simp)).mono ?_;rintro e w4⟨Cw,rfl,H4⟩;clear c2 c3 a d k r t u;obtain⟨c2,c3,a,d,k⟩:=dJ H4;obtain⟨r,t⟩:=rR H4;go_wp2_with fail;refine (vR H4 [46,46] (-1) (by simp) (by have:=F.o;simp [aj] at this ⊢;omega)).mono ?_;rintro e w5⟨pv5,rfl,U⟩;clear c2 c3 a d k r t H4;obtain⟨c2,c3,a,d,k⟩:=dJ U;obtain⟨r,t⟩:=rR U;have kq:w5.cell? ⟨kb,N+1,none⟩=some (.int .i64 ((j:Nat):Int)):=HX.o.kq U.o E.o.hx Kg.o ahB.o;have ym:(1:Int) < (m:Int):=by have:=V.o;omega
 have yn:1 < m:=by have:=V.o;omega
 go_upto_region 11 with (fail)
 go_still_tail 5,(by kernel_rfl)
 change wpList _ _ _ _ _ w5.drew
 have v:=O U.o.drew
 generalize w5.drew=wd6 at v ⊢
 clear c2 c3 a d k r t U;obtain⟨c2,c3,a,d,k⟩:=dJ v;obtain⟨r,t⟩:=rR v;clear kq ym yn;go_wp2_with fail;refine (ng2 (U6 v HX.o Hhz.o (by have:=Z.o;omega) (by have:=Z.o;omega) (by have:=F.o;have:=ni.o;have:=vM.o;rw [eU];simp [aj] at this ⊢;simp [aj] at *;omega)) (by simp)).mono ?_;rintro e w6⟨pv6,rfl,H6⟩;clear c2 c3 a d k r t v;obtain⟨c2,c3,a,d,k⟩:=dJ H6;obtain⟨r,t⟩:=rR H6;go_wp2_with fail;refine (vR H6 [59] (-1) (by simp) (by have:=F.o;simp [aj] at this ⊢;omega)).mono ?_;rintro e w7⟨pv7,rfl,H7⟩;clear c2 c3 a d k r t H6;obtain⟨c2,c3,a,d,k⟩:=dJ H7;obtain⟨r,t⟩:=rR H7;go_wp2_with fail;go_end0
 exact⟨_,rfl,O (by have h:=H7.o.xe;simpa [List.append_assoc,ig,tz,lz] using h)⟩
end
end
