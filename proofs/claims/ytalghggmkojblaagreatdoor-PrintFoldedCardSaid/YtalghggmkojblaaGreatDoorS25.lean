/-
  A part of the proof.
-/
import Derived.Test.YtalghggmkojblaaGreatDoorS24
set_option linter.all false
set_option maxRecDepth 100000
set_option maxHeartbeats 4000000
set_option linter.all false
namespace Go.Proofs.YtalghggmkojblaaGreatDoor
open Go.RowKit Mist
attribute [local go_sem] ak aN aV aF aj
section
variable {S:Sz} {B g n c f i j q b2 b3 b4 b5 b6 h:Nat} {cs:Array Value} {w W:World} {A Bi:Option Addr} {nv iv pv:Value} {ps l:List Pz} {xs:List NV} {its:List Int} {x y:NV}
theorem aeZ (H:Hid (PZ S B g w W (.slice A n c) iv pv ps))(X:CX w B A Bi n xs its)(D:xs[i]? = some x)(h4:(b4,54,#[.pointer (some ⟨g,0,none⟩)]) ∈ S)(h6:(b6,56,kY x) ∈ S)
  (t:x.1.kids[j]? = some ((q:Nat):Int)) (F:MC 51 w B g A n c iv ⟨aH xs,its⟩ f q) (C:ps.length+(aQ ⟨aH xs,its⟩ f q).length≤1000000) :
  Calls Tryz.prog 50 #[.int .i64 j,.pointer (some ⟨b4,0,none⟩),.pointer (some ⟨b6,0,none⟩)] W (lW S B g w (.slice A n c) iv (iL ps (aQ ⟨aH xs,its⟩ f q))):=by
 have c4:=(H.o.kp _ h4).1.cell 0;obtain⟨M,kc,k,r,d⟩:=X.kids H.o D;have J:j < x.1.kids.length:=(amG.1 t).1;have v:W.cell? ⟨b6,3,none⟩=some x.2:=(H.o.kp _ h6).1.cell 3;obtain⟨kb,N,a,K,b⟩:=d.ex (by omega);have kq:=b j _ t;rw [k,a] at v
 simp only at c4
 have Q:(0:Int)≤(j:Int):=by omega
 generalize x.1.kids.length=m at *
 have R:(j:Int) < (m:Int):=by omega
 have E:=O F;have G:=O C;clear C F X d k r b D t a;go_in
 go_still_tail 6,(by kernel_rfl)
 change wpList _ _ _ _ _ W.drew
 have u:=O H.o.drew
 generalize W.drew=w1 at u ⊢
 clear H c4 v kq;go_wp2_with fail;refine (E.o S _ pv ps u G.o).mono ?_;rintro e P⟨L,rfl,I⟩;go_wp2_with fail;go_end0
 exact⟨L,rfl,I⟩
theorem agZ (H:Hid (PZ S B g w W (.slice A n c) iv pv ps))(X:CX w B A Bi n xs its)(D:xs[i]? = some x)(h4:(b4,54,#[.pointer (some ⟨g,0,none⟩)]) ∈ S)(h6:(b6,56,kY x) ∈ S)
  (t:x.1.kids[j]? = some ((q:Nat):Int)) (F:MC 51 w B g A n c iv ⟨aH xs,its⟩ f q) (C:ps.length+(aQ ⟨aH xs,its⟩ f q).length≤1000000) :
  Calls Tryz.prog 86 #[.int .i64 j,.pointer (some ⟨b4,0,none⟩),.pointer (some ⟨b6,0,none⟩)] W (lW S B g w (.slice A n c) iv (iL ps (aQ ⟨aH xs,its⟩ f q))):=by
 have c4:=(H.o.kp _ h4).1.cell 0;obtain⟨M,kc,k,r,d⟩:=X.kids H.o D;have J:j < x.1.kids.length:=(amG.1 t).1;have v:W.cell? ⟨b6,3,none⟩=some x.2:=(H.o.kp _ h6).1.cell 3;obtain⟨kb,N,a,K,b⟩:=d.ex (by omega);have kq:=b j _ t;rw [k,a] at v
 simp only at c4
 have Q:(0:Int)≤(j:Int):=by omega
 generalize x.1.kids.length=m at *
 have R:(j:Int) < (m:Int):=by omega
 have E:=O F;have G:=O C;clear C F X d k r b D t a;go_in
 go_still_tail 6,(by kernel_rfl)
 change wpList _ _ _ _ _ W.drew
 have u:=O H.o.drew
 generalize W.drew=w1 at u ⊢
 clear H c4 v kq;go_wp2_with fail;refine (E.o S _ pv ps u G.o).mono ?_;rintro e P⟨L,rfl,I⟩;go_wp2_with fail;go_end0
 exact⟨L,rfl,I⟩
theorem CX.kq (X:CX w B A Bi n xs its)(H:PZ S B g w W nv iv pv ps)(C:xs[i]? = some x){kb r m kc:Nat}(h2:x.2=.slice (some ⟨kb,r,none⟩) m kc)(k:x.1.kids[j]? = some ((q:Nat):Int)):W.cell? ⟨kb,r+j,none⟩=some (.int .i64 (q:Int)):=by
 obtain⟨G,E,b,v,e⟩:=X.kids H C;rw [h2] at b
 injection b with t I J
 obtain⟨D,F,a,u,d⟩:=e.ex (by have:=(amG.1 k).1;omega);rw [← t] at a
 injection a with a
 injection a with h3 h4
 rw [h3,h4];exact d j _ k
def PK (w:World)(B g:Nat)(A:Option Addr)(n c:Nat)(iv:Value)(xs:List NV)(its:List Int)(f m:Nat)(x:NV):Prop:=∀ j q,j < m→x.1.kids[j]? = some ((q:Nat):Int)→MC 51 w B g A n c iv ⟨aH xs,its⟩ f q
abbrev fS (h g:Nat) (cs:Array Value) (m:Nat) (S:Sz):Sz:=(h+2,3,#[.int .i64 (m:Nat)]) :: (h+1,56,cs) :: (h,54,#[.pointer (some ⟨g,0,none⟩)]) :: S
theorem fsH (cs:Array Value)(m:Nat)(H:Hid (PZ S B g w W nv iv pv ps)):Hid (PZ (fS W.heap.size g cs m S) B g w (((W.alloc (.cells #[.pointer (some ⟨g,0,none⟩)] 54)).alloc (.cells cs 56)).alloc (.cells #[.int .i64 (m:Nat)] 3)) nv iv pv ps):=by
 have a:(W.alloc (.cells #[.pointer (some ⟨g,0,none⟩)] 54)).heap.size=W.heap.size+1:=by simp
 have b:((W.alloc (.cells #[.pointer (some ⟨g,0,none⟩)] 54)).alloc (.cells cs 56)).heap.size=W.heap.size+2:=by simp
 have h3:=((H.o.box (T:=54) (cs:=#[.pointer (some ⟨g,0,none⟩)]) (by decide)).box (T:=56) (cs:=cs) (by decide)).box (T:=3) (cs:=#[.int .i64 (m:Nat)]) (by decide);rw [a,b] at h3
 exact O h3
theorem kJ {m:Nat}(H:Hid (PZ (fS h g cs m S) B g w W nv iv pv ps)):W.cell? ⟨h,0,none⟩=some (.pointer (some ⟨g,0,none⟩))∧W.cell? ⟨h+1,2,none⟩=cs[2]? ∧ W.cell? ⟨h+1,3,none⟩=cs[3]? ∧ W.cell? ⟨h+2,0,none⟩=some (.int .i64 (m:Nat)) :=
 ⟨(H.o.kp _ (List.mem_cons_of_mem _ (List.mem_cons_of_mem _ (List.mem_cons_self ..)))).1.cell 0,(H.o.kp _ (List.mem_cons_of_mem _ (List.mem_cons_self ..))).1.cell 2,(H.o.kp _ (List.mem_cons_of_mem _ (List.mem_cons_self ..))).1.cell 3,(H.o.kp _ (List.mem_cons_self ..)).1.cell 0⟩
theorem fl1 {m:Nat}(H:Hid (PZ S B g w W (.slice A n c) iv pv ps))(X:CX w B A Bi n xs its)(K:KX w B g A n c iv xs its f i x)(Q:¬ (4≤x.1.kind∧x.1.kind≤18)∧x.1.kind ≠ 22∧x.1.kind ≠ 23)(h4:(b4,54,#[.pointer (some ⟨g,0,none⟩)]) ∈ S)(h6:(b6,56,kY x) ∈ S)(h5:(b5,3,#[.int .i64 (m:Nat)]) ∈ S)(E:0 < f)
  (R:m≤x.1.kids.length) (F:PK w B g A n c iv xs its f m x) (r:ps.length+(ig ⟨aH xs,its⟩ (aQ ⟨aH xs,its⟩ f) i m).length < 1000000) :
  Calls Tryz.prog 85 #[.pointer (some ⟨b4,0,none⟩),.pointer (some ⟨b5,0,none⟩),.pointer (some ⟨b6,0,none⟩)] W (lW S B g w (.slice A n c) iv (iL ps (ig ⟨aH xs,its⟩ (aQ ⟨aH xs,its⟩ f) i m))):=by
 have c4:=(H.o.kp _ h4).1.cell 0;have c5:=(H.o.kp _ h5).1.cell 0;simp only at c4 c5
 obtain⟨M,kc,d,I,b⟩:=X.kids H.o K.hx
 have u:=O (ls1 H 86 #[.pointer (some ⟨b4,0,none⟩),.pointer (some ⟨b6,0,none⟩)] (dU ⟨aH xs,its⟩ (aQ ⟨aH xs,its⟩ f) i) m (K.ne E 0 (.inr rfl)) (by omega) r (fun j C=>by kernel_rfl)
  (fun j C L T G t h=>by
   obtain⟨q,y,a,N,P⟩:=K.k j (by omega);have D:dU ⟨aH xs,its⟩ (aQ ⟨aH xs,its⟩ f) i j=aQ ⟨aH xs,its⟩ f q:=mh (by rw [bD its K.hx];omega) (by rw [bD its K.hx];exact a);rw [D] at t ⊢
   exact agZ h X K.hx h4 h6 a (F j q G a) t))
 clear r X K F d b;go_in
 go_wp2_with fail;refine u.o.mono ?_;rintro e U⟨J,rfl,v⟩;go_wp2_with fail;go_end0
 exact⟨J,rfl,v⟩
theorem agl {m:Nat}(H:Hid (PZ S B g w W (.slice A n c) iv pv (iL ps l)))(hl0:l ≠ [])(X:CX w B A Bi n xs its)(K:KX w B g A n c iv xs its f i x)(Z:x.1.kind=42)(hm:x.1.kids.length=m+2)(hf:0 < f)(F:PK w B g A n c iv xs its f m x)
  (hq:x.1.kids[m]? = some ((q:Nat):Int)) (G:MC 84 w B g A n c iv ⟨aH xs,its⟩ f q) (E:KE w B g A n c iv xs its f x (m+1)) (n0:-1000000≤x.1.n) (n1:x.1.n≤1000000) (hs:¬ 0 < x.1.n)
  (hl:ps.length+(l ++ tz [40] (-1) :: (cZ false (ig ⟨aH xs,its⟩ (aQ ⟨aH xs,its⟩ f) i m) ++ tz [41] (-1) :: tz [58] (-1) :: (cZ true (dU ⟨aH xs,its⟩ (aQ ⟨aH xs,its⟩ f) i m) ++ (([]:List Pz) ++ lz [61] (-1) :: cZ true (dU ⟨aH xs,its⟩ (aQ ⟨aH xs,its⟩ f) i (m+1)))))).length+1≤1000000) :
  Calls Tryz.prog 52 #[.pointer (some ⟨g,0,none⟩),.int .i64 i,.agg (kY x)] W (lW S B g w (.slice A n c) iv (iL ps (l ++ tz [40] (-1) :: (cZ false (ig ⟨aH xs,its⟩ (aQ ⟨aH xs,its⟩ f) i m) ++ tz [41] (-1) :: tz [58] (-1) :: (cZ true (dU ⟨aH xs,its⟩ (aQ ⟨aH xs,its⟩ f) i m) ++ (([]:List Pz) ++ lz [61] (-1) :: cZ true (dU ⟨aH xs,its⟩ (aQ ⟨aH xs,its⟩ f) i (m+1)))))))):=by
 obtain⟨Ka,kc,D,hkl,C⟩:=X.kids H.o K.hx;obtain⟨kb,ko,u,hkb,hkc⟩:=C.ex (by omega);obtain⟨M,Y⟩:∃ M,M=x.1.kids.length:=⟨_,rfl⟩;have v:M=m+2:=by rw [Y,hm]
 have r:x.2=.slice (some ⟨kb,ko,none⟩) M kc:=by rw [D,u,Y]
 have V:kY x=#[.int .u8 42,.string (aG x.1.text),.int .i64 x.1.n,.slice (some ⟨kb,ko,none⟩) M kc,.int .i64 x.1.at_]:=by unfold kY;rw [Z,r];rfl
 have EB:=O V;have HS:=fsH #[.int .u8 42,.string (aG x.1.text),.int .i64 x.1.n,.slice (some ⟨kb,ko,none⟩) M kc,.int .i64 x.1.at_] m H;have ws:wrap64 ((M:Int) - 2)=(m:Int):=by unfold wrap64;omega
 have t:dU ⟨aH xs,its⟩ (aQ ⟨aH xs,its⟩ f) i m=aQ ⟨aH xs,its⟩ f q:=mh (by rw [bD its K.hx];omega) (by rw [bD its K.hx];exact hq);rw [t] at hl ⊢
 have k:=O hl;have U:=O X;have T:=O K;have HF:=O F;have HQ:=O hq;have HG:=O G;have HE:=O E;have N0:=O n0;have N1:=O n1;have ME:=O r;have vo:=O v;have Jd:=O hm;have uU:=O Z;have zs:¬ 0 < x.1.n:=hs;have hmw:m≤x.1.kids.length:=by omega
 rw [V];clear hl X K F hq G E n0 n1 r D C hkc u hkb H Y v hm V t Z hs;go_in
 go_wp2_with fail;refine (uV HS [40] (-1) hl0 (by have:=k.o;simp [au] at this ⊢;omega)).mono ?_;rintro e w1⟨yK,rfl,L⟩;clear HS;obtain⟨c4,d,a,b⟩:=kJ L;go_wp2_with fail;refine (in2 L 85 #[.pointer (some ⟨W.heap.size,0,none⟩),.pointer (some ⟨W.heap.size+2,0,none⟩),.pointer (some ⟨W.heap.size+1,0,none⟩)] (ig ⟨aH xs,its⟩ (aQ ⟨aH xs,its⟩ f) i m) (by simp) (by have:=k.o;simp [au] at this ⊢;omega) (fun W'=>by kernel_rfl) (fun W' pv' H'=>fl1 H' U.o T.o (by rw [uU.o];omega) (List.mem_cons_of_mem _ (List.mem_cons_of_mem _ (List.mem_cons_self ..))) (by rw [EB.o];exact List.mem_cons_of_mem _ (List.mem_cons_self ..)) (List.mem_cons_self ..) hf hmw HF.o (by have:=k.o;rw [d_];simp [au] at this ⊢;omega))).mono ?_;rintro e w2⟨nC,rfl,N⟩;clear L c4 d a b;obtain⟨c4,d,a,b⟩:=kJ N;go_wp2_with fail;refine (uV N [41] (-1) (by simp) (by have:=k.o;simp [au] at this ⊢;omega)).mono ?_;rintro e w3⟨uY,rfl,P⟩;clear N c4 d a b;obtain⟨c4,d,a,b⟩:=kJ P;go_wp2_with fail;refine (uV P [58] (-1) (by simp) (by have:=k.o;simp [au] at this ⊢;omega)).mono ?_;rintro e w4⟨Fh,rfl,I⟩;clear P c4 d a b;obtain⟨c4,d,a,b⟩:=kJ I;have kq:=U.o.kq I.o T.o.hx ME.o HQ.o;have y0:(0:Int)≤(m:Int):=by omega
 have y1:(m:Int) < (M:Int):=by have:=vo.o;omega
 go_upto_region 6 with (fail)
 go_still_tail 6,(by kernel_rfl)
 change wpList _ _ _ _ _ w4.drew
 have J:=O I.o.drew
 generalize w4.drew=wd at J ⊢
 clear kq y0 y1;clear I c4 d a b;obtain⟨c4,d,a,b⟩:=kJ J;go_wp2_with fail;refine (Va (HG.o _ _ _ _ J (by have:=k.o;rw [d_];simp [au] at this ⊢;omega)) (by simp)).mono ?_;rintro e w5⟨pv5,rfl,Q⟩;clear J c4 d a b;obtain⟨c4,d,a,b⟩:=kJ Q;go_wp2_with fail;refine (I6 Q [61] (-1) (by simp) (by have:=k.o;simp [au] at this ⊢;omega)).mono ?_;rintro e w6⟨pv6,rfl,R⟩;clear Q c4 d a b;obtain⟨c4,d,a,b⟩:=kJ R;have wm:wrap64 ((m:Int)+1)=((m+1:Nat):Int):=by have:=vo.o;have:=Jd.o;unfold wrap64;omega
 go_wp2_with fail;refine (Va (kd1 R U.o T.o (j:=m+1) (by have:=Jd.o;omega) HE.o (by have:=k.o;rw [d_];simp [au] at this ⊢;omega)) (by simp)).mono ?_;rintro e w7⟨pv7,rfl,H7⟩;clear R c4 d a b;obtain⟨c4,d,a,b⟩:=kJ H7;go_wp2_with fail;go_end0
 exact⟨_,rfl,O (by have h:=H7.o.tl.tl.tl;simpa [List.append_assoc] using h)⟩
theorem agm {m:Nat}(H:Hid (PZ S B g w W (.slice A n c) iv pv (iL ps l)))(hl0:l ≠ [])(X:CX w B A Bi n xs its)(K:KX w B g A n c iv xs its f i x)(hk:x.1.kind=42)(hm:x.1.kids.length=m+2)(hf:0 < f)(F:PK w B g A n c iv xs its f m x)
  (hq:x.1.kids[m]? = some ((q:Nat):Int)) (G:MC 84 w B g A n c iv ⟨aH xs,its⟩ f q) (E:KE w B g A n c iv xs its f x (m+1)) (n0:-1000000≤x.1.n) (n1:x.1.n≤1000000) (hs:0 < x.1.n)
  (hl:ps.length+(l ++ tz [40] (-1) :: (cZ false (ig ⟨aH xs,its⟩ (aQ ⟨aH xs,its⟩ f) i m) ++ tz [41] (-1) :: tz [58] (-1) :: (cZ true (dU ⟨aH xs,its⟩ (aQ ⟨aH xs,its⟩ f) i m) ++ (([lz [117,112,116,111] (-1),lz (Go.Lib.itoa x.1.n) (-1)]:List Pz) ++ lz [61] (-1) :: cZ true (dU ⟨aH xs,its⟩ (aQ ⟨aH xs,its⟩ f) i (m+1)))))).length+1≤1000000) :
  Calls Tryz.prog 52 #[.pointer (some ⟨g,0,none⟩),.int .i64 i,.agg (kY x)] W (lW S B g w (.slice A n c) iv (iL ps (l ++ tz [40] (-1) :: (cZ false (ig ⟨aH xs,its⟩ (aQ ⟨aH xs,its⟩ f) i m) ++ tz [41] (-1) :: tz [58] (-1) :: (cZ true (dU ⟨aH xs,its⟩ (aQ ⟨aH xs,its⟩ f) i m) ++ (([lz [117,112,116,111] (-1),lz (Go.Lib.itoa x.1.n) (-1)]:List Pz) ++ lz [61] (-1) :: cZ true (dU ⟨aH xs,its⟩ (aQ ⟨aH xs,its⟩ f) i (m+1)))))))):=by
 obtain⟨Ka,kc,P,hkl,N⟩:=X.kids H.o K.hx;obtain⟨kb,U,J,hkb,hkc⟩:=N.ex (by omega);obtain⟨M,hM⟩:∃ M,M=x.1.kids.length:=⟨_,rfl⟩;have L:M=m+2:=by rw [hM,hm]
 have t:x.2=.slice (some ⟨kb,U,none⟩) M kc:=by rw [P,J,hM]
 have eb:kY x=#[.int .u8 42,.string (aG x.1.text),.int .i64 x.1.n,.slice (some ⟨kb,U,none⟩) M kc,.int .i64 x.1.at_]:=by unfold kY;rw [hk,t];rfl
 have EB:=O eb;have HS:=fsH #[.int .u8 42,.string (aG x.1.text),.int .i64 x.1.n,.slice (some ⟨kb,U,none⟩) M kc,.int .i64 x.1.at_] m H;have ws:wrap64 ((M:Int) - 2)=(m:Int):=by unfold wrap64;omega
 have I:dU ⟨aH xs,its⟩ (aQ ⟨aH xs,its⟩ f) i m=aQ ⟨aH xs,its⟩ f q:=mh (by rw [bD its K.hx];omega) (by rw [bD its K.hx];exact hq);rw [I] at hl ⊢
 have r:=O hl;have v:=O X;have HK:=O K;have HF:=O F;have HQ:=O hq;have HG:=O G;have HE:=O E;have N0:=O n0;have N1:=O n1;have ME:=O t;have vo:=O L;have Jd:=O hm;have uU:=O hk;have zs:0 < x.1.n:=hs;have hmw:m≤x.1.kids.length:=by omega
 rw [eb];clear hl X K F hq G E n0 n1 t P N hkc J hkb H hM L hm eb I hk hs;go_in
 go_wp2_with fail;refine (uV HS [40] (-1) hl0 (by have:=r.o;simp [au] at this ⊢;omega)).mono ?_;rintro e w1⟨yK,rfl,V⟩;clear HS;obtain⟨c4,k,a,d⟩:=kJ V;go_wp2_with fail;refine (in2 V 85 #[.pointer (some ⟨W.heap.size,0,none⟩),.pointer (some ⟨W.heap.size+2,0,none⟩),.pointer (some ⟨W.heap.size+1,0,none⟩)] (ig ⟨aH xs,its⟩ (aQ ⟨aH xs,its⟩ f) i m) (by simp) (by have:=r.o;simp [au] at this ⊢;omega) (fun W'=>by kernel_rfl) (fun W' pv' H'=>fl1 H' v.o HK.o (by rw [uU.o];omega) (List.mem_cons_of_mem _ (List.mem_cons_of_mem _ (List.mem_cons_self ..))) (by rw [EB.o];exact List.mem_cons_of_mem _ (List.mem_cons_self ..)) (List.mem_cons_self ..) hf hmw HF.o (by have:=r.o;rw [d_];simp [au] at this ⊢;omega))).mono ?_;rintro e w2⟨nC,rfl,Y⟩;clear V c4 k a d;obtain⟨c4,k,a,d⟩:=kJ Y;go_wp2_with fail;refine (uV Y [41] (-1) (by simp) (by have:=r.o;simp [au] at this ⊢;omega)).mono ?_;rintro e w3⟨uY,rfl,Z⟩;clear Y c4 k a d;obtain⟨c4,k,a,d⟩:=kJ Z;go_wp2_with fail;refine (uV Z [58] (-1) (by simp) (by have:=r.o;simp [au] at this ⊢;omega)).mono ?_;rintro e w4⟨Fh,rfl,Q⟩;clear Z c4 k a d;obtain⟨c4,k,a,d⟩:=kJ Q;have kq:=v.o.kq Q.o HK.o.hx ME.o HQ.o;have y0:(0:Int)≤(m:Int):=by omega
 have y1:(m:Int) < (M:Int):=by have:=vo.o;omega
 go_upto_region 6 with (fail)
 go_still_tail 6,(by kernel_rfl)
 change wpList _ _ _ _ _ w4.drew
 have R:=O Q.o.drew
 generalize w4.drew=wd at R ⊢
 clear kq y0 y1;clear Q c4 k a d;obtain⟨c4,k,a,d⟩:=kJ R;go_wp2_with fail;refine (Va (HG.o _ _ _ _ R (by have:=r.o;rw [d_];simp [au] at this ⊢;omega)) (by simp)).mono ?_;rintro e w5⟨pv5,rfl,H5⟩;clear R c4 k a d;obtain⟨c4,k,a,d⟩:=kJ H5;go_wp2_with fail;refine (I6 H5 [117,112,116,111] (-1) (by simp) (by have:=r.o;simp [au] at this ⊢;omega)).mono ?_;rintro e w6⟨pv6,rfl,C⟩;clear H5 c4 k a d;obtain⟨c4,k,a,d⟩:=kJ C;have D:=O fun (W2:World) (T:Below w6.heap.size w6 W2)=>yC v.o.pow (C.o.MF.mono v.o.b) (Nat.le_trans v.o.b C.o.lw) N0.o N1.o T
 go_upto_region 9 with (fail)
 go_region_held3 (fun w'=>w'.cell? ⟨W.heap.size,0,none⟩=some (.pointer (some ⟨g,0,none⟩))∧w'.cell? ⟨W.heap.size+1,2,none⟩=some (.int .i64 x.1.n)) (first | go_keep|(go_split_ands;refine⟨?_,?_⟩ <;> assumption))
  ((first
    | (go_at_call 33
       refine (D.o _ (by (repeat (first|(with_reducible exact Below.refl _ _)|(with_reducible refine Below.drew ?_)));done)).mono ?_;rintro e wA⟨rfl,T⟩;have u:=O (C.o.below T);clear c4 k a d T;obtain⟨c4,k,a,d⟩:=kJ u)
    | (go_at_call 46
       refine (I6 (S:=fS W.heap.size g #[.int .u8 42,.string (aG x.1.text),.int .i64 x.1.n,.slice (some ⟨kb,U,none⟩) M kc,.int .i64 x.1.at_] m S) (by first | exact u | exact O u.o.drew | exact O u.o.drew.drew | exact O (u.o.drewN _)) (Go.Lib.itoa x.1.n) (-1) (by simp) (by have:=r.o;simp [au] at this ⊢;omega)).mono ?_;rintro e w7⟨pv7,rfl,H7⟩;clear c4 k a d;obtain⟨c4,k,a,d⟩:=kJ H7)))
 all_goals
  clear u D C;go_wp2_with fail;refine (I6 H7 [61] (-1) (by simp) (by have:=r.o;simp [au] at this ⊢;omega)).mono ?_;rintro e w8⟨pv8,rfl,H8⟩;clear H7 c4 k a d;obtain⟨c4,k,a,d⟩:=kJ H8;have wm:wrap64 ((m:Int)+1)=((m+1:Nat):Int):=by have:=vo.o;have:=Jd.o;unfold wrap64;omega
  go_wp2_with fail;refine (Va (kd1 H8 v.o HK.o (j:=m+1) (by have:=Jd.o;omega) HE.o (by have:=r.o;rw [d_];simp [au] at this ⊢;omega)) (by simp)).mono ?_;rintro e w9⟨pv9,rfl,H9⟩;clear H8 c4 k a d;obtain⟨c4,k,a,d⟩:=kJ H9;go_wp2_with fail;go_end0
  exact⟨_,rfl,O (by have h:=H9.o.tl.tl.tl;simpa [List.append_assoc] using h)⟩
end
