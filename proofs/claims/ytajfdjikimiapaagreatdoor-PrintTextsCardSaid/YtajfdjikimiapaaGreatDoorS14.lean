/-
  A part of the proof.
-/
import Derived.StillTailTactics
import Derived.Test.YtajfdjikimiapaaGreatDoorS13
set_option linter.all false
set_option maxRecDepth 100000
set_option maxHeartbeats 4000000
set_option linter.all false
namespace Go.Proofs.YtajfdjikimiapaaGreatDoor
section
open Go.RowKit Mist
attribute [local go_sem] au aN aV aM aG
section
variable {S:Sz} {B g:Nat} {w W:World} {nv iv pv:Value} {ps l:List Pz}
def kS (S:Sz)(B g:Nat)(w:World)(nv iv:Value)(ps:List Pz)(e:Ending)(W':World):Prop:=∃ pv',e=.returned (.tuple #[])∧Hid (PZ S B g w W' nv iv pv' ps)
theorem pzE {e:Ending}{k:World}(h:e=.returned (.tuple #[])∧∃ d,PZ S B g w k nv iv d ps):kS S B g w nv iv ps e k:=by
 obtain⟨a,d,b⟩:=h;exact⟨d,a,O b⟩
theorem yQ (H:Hid (PZ S B g w W nv iv pv ps))(t:Bs)(n:Int)(a:ps.length≤1000000) :
  Calls Tryz.prog 54 #[.pointer (some ⟨g,0,none⟩),.string (aU t),.int .i64 n] W (kS S B g w nv iv (gH ps [tz t n])) :=
 (abW H.o t n a).mono fun _ _ h=>pzE h
theorem EO (H:Hid (PZ S B g w W nv iv pv (gH ps l)))(t:Bs)(n:Int)(a:l ≠ [])(b:ps.length+l.length≤1000000) :
  Calls Tryz.prog 54 #[.pointer (some ⟨g,0,none⟩),.string (aU t),.int .i64 n] W (kS S B g w nv iv (gH ps (l ++ [lz t n]))) :=
 (abW H.o t n (by rw [dR];exact b)).mono fun _ _ h=>pzE (by rw [aaV,qO ps l _ a] at h;exact h)
theorem uO (H:Hid (PZ S B g w W nv iv pv (gH ps l)))(t:Bs)(n:Int)(a:l ≠ [])(b:ps.length+l.length≤1000000) :
  Calls Tryz.prog 55 #[.pointer (some ⟨g,0,none⟩),.string (aU t),.int .i64 n] W (kS S B g w nv iv (gH ps (l ++ [tz t n]))) :=
 (WO H.o t n (by rw [dR];exact b)).mono fun _ _ h=>pzE (by rw [uz ps a];exact h)
theorem in2 (H:Hid (PZ S B g w W nv iv pv (gH ps l)))(k:Nat)(d:Array Value)(r:List Pz)(C:l ≠ [])(D:ps.length+l.length≤1000000)(t:∀ e,Sem.run Tryz.prog (callFunc k d) e=.ok (.enter k d) e)
  (u:∀ e m,Hid (PZ S B g w e nv iv m (gH ps l))→Calls Tryz.prog k d e (kS S B g w nv iv (gH (gH ps l) r))) :
  Calls Tryz.prog 79 #[.pointer (some ⟨g,0,none⟩),.func (.func k) #[] d] W (kS S B g w nv iv (gH ps (l ++ aH false r))) :=
 (Xw H.o k d r (by rw [dR];exact D) t (fun e m h _=>(u e m (O h)).mono fun _ _ h=>by
  obtain⟨E,a,b⟩:=h;exact⟨a,E,b.o⟩)).mono fun _ _ h=>pzE (by rw [uz ps C];exact h)
end
structure CX (w:World) (B:Nat) (A Bi:Option Addr) (n:Nat) (xs:List NV) (its:List Int):Prop where
 t:lJ w A Bi xs its
 len:xs.length=n
 b:w.heap.size≤B
 few:n≤100000
 pow:Pow w
 env:Env w
theorem CX.at_ {w W:World}{B g n:Nat}{A Bi:Option Addr}{xs:List NV}{its:List Int}{S:Sz}{nv iv pv:Value}{ps:List Pz}(X:CX w B A Bi n xs its)(h:PZ S B g w W nv iv pv ps):lJ W A Bi xs its:=X.t.below (h.IU.mono X.b)
def XC (w:World)(B g:Nat)(A:Option Addr)(n c:Nat)(iv:Value)(T:Tr)(f i:Nat):Prop :=
 ∀ (S:Sz) (W:World) (pv:Value) (ps:List Pz),Hid (PZ S B g w W (.slice A n c) iv pv ps)→ps.length+(ah T f i).length≤1000000 →
  Calls Tryz.prog 35 #[.pointer (some ⟨g,0,none⟩),.int .i64 i] W (kS S B g w (.slice A n c) iv (gH ps (ah T f i)))
section
variable {S:Sz} {B g n c f i j q:Nat} {w W:World} {A Bi:Option Addr} {iv pv:Value} {ps l:List Pz} {xs:List NV} {its:List Int} {x y:NV}
theorem ac_ (H:Hid (PZ S B g w W (.slice A n c) iv pv ps)){b3 b6:Nat}(h3:(b3,56,#[.pointer (some ⟨g,0,none⟩)]) ∈ S)(h6:(b6,3,#[.int .i64 (q:Nat)]) ∈ S){T:Tr}(d:XC w B g A n c iv T f q)(k:ps.length+(ah T f q).length≤1000000) :
  Calls Tryz.prog 110 #[.pointer (some ⟨b3,0,none⟩),.pointer (some ⟨b6,0,none⟩)] W (kS S B g w (.slice A n c) iv (gH ps (ah T f q))):=by
 have c3:=(H.o.kp _ h3).1.cell 0;have b:=(H.o.kp _ h6).1.cell 0;simp only at c3 b
 go_in
 go_wp2_with fail;refine (d S W pv ps H k).mono ?_;rintro e r⟨m,rfl,a⟩;go_wp2_with fail;go_end0
 exact⟨m,rfl,a⟩
theorem aeM (H:Hid (PZ S B g w W (.slice A n c) iv pv ps))(X:CX w B A Bi n xs its)(k:xs[i]? = some x)(D:x.1.kids[j]? = some (q:Int))(hy:xs[q]? = some y)(hX:XC w B g A n c iv ⟨aj xs,its⟩ f q)
  (I:ps.length+(bM ⟨aj xs,its⟩ (ah ⟨aj xs,its⟩ f) i j).length≤1000000) :
  Calls Tryz.prog 61 #[.pointer (some ⟨g,0,none⟩),.int .i64 i,.int .i64 j] W (kS S B g w (.slice A n c) iv (gH ps (bM ⟨aj xs,its⟩ (ah ⟨aj xs,its⟩ f) i j))):=by
 have hi:i < n:=by rw [← X.len];exact (aiq.1 k).1
 have E:j < x.1.kids.length:=(aiq.1 D).1;have hT:=X.at_ H.o;obtain⟨b,o,hA,Q⟩:=hT.nodes (by have:=X.len;omega);have k3:=Q.c3 i x k;obtain⟨Ka,kc,K,hkl,G⟩:=Q.kid k;obtain⟨kb,ko,Z,hkb,F⟩:=G.ex (by omega);have kq:=F j _ D;rw [K] at k3
 subst Z;obtain⟨nk,J⟩:∃ m,m=x.1.kids.length:=⟨_,rfl⟩;rw [← J] at k3 E
 have c0:=H.o.blk.cell 0;have Y:b < W.heap.size:=Q.lt;have y0:(0:Int)≤(i:Int):=by omega
 have y1:(i:Int) < (n:Int):=by omega
 have y2:(0:Int)≤(j:Int):=by omega
 have y3:(j:Int) < (nk:Int):=by omega
 have hg:=H.o.blk.lt
 have hne:ah ⟨aj xs,its⟩ f q ≠ []∨f≤q:=by
  rcases Nat.lt_or_ge q f with h | h
  ·exact .inl (Ju _ h)
  ·exact .inr h
 have e1:((nd (⟨aj xs,its⟩:Tr) i).kids.getD j 0).toNat=q:=by rw [aY its k,ait,D];rfl
 have ek:bM ⟨aj xs,its⟩ (ah ⟨aj xs,its⟩ f) i j=if n_ x.1.kind j y.1.kind then ah ⟨aj xs,its⟩ f q else tz [40] (-1) :: (aH false (ah ⟨aj xs,its⟩ f q) ++ [tz [41] (-1)]):=by
  unfold bM;simp only
  rw [e1,aY its k,aY its hy]
 rw [ek] at I ⊢
 have u:=O hX;have HS:=O (H.o.box (T:=56) (cs:=#[.pointer (some ⟨g,0,none⟩)]) (by decide));have C:(W.alloc (.cells #[.pointer (some ⟨g,0,none⟩)] 56)).heap.size=W.heap.size+1:=by simp
 have d:=O (HS.o.box (T:=3) (cs:=#[.int .i64 (q:Nat)]) (by decide));rw [C] at d
 have U:=O (acB d.o (X.at_ d.o) X.len k D hy);subst hA
 generalize n_ x.1.kind j y.1.kind=br at I U ⊢
 obtain⟨M,hM⟩:∃ M,M=if br then ah ⟨aj xs,its⟩ f q else tz [40] (-1) :: (aH false (ah ⟨aj xs,its⟩ f q) ++ [tz [41] (-1)]):=⟨_,rfl⟩
 rw [← hM] at I ⊢
 have N:=O I;have P:=O hM;clear I hM hT Q k D hy hX X hkl G F hne e1 ek J K;go_in
 go_wp2_with fail;refine U.o.mono ?_;rintro e w3⟨rfl,hb⟩;have r:=O (d.o.below hb);clear hb U HS d c0 k3 kq H C y0 y1 y2 y3 Y hkb hg hi E;have c3:=(r.o.kp _ (List.mem_cons_of_mem _ (List.mem_cons_self ..))).1.cell 0;have V:=(r.o.kp _ (List.mem_cons_self ..)).1.cell 0;simp only at c3 V
 cases br
 ·have L:=O (show M=tz [40] (-1) :: (aH false (ah ⟨aj xs,its⟩ f q) ++ [tz [41] (-1)]) from P.o);have a:=O (show ps.length+(ah ⟨aj xs,its⟩ f q).length+2≤1000000 by have:=N.o;rw [L.o] at this;simp [ak] at this;omega);clear P N;go_wp2_with fail;refine (yQ r [40] (-1) (by have:=a.o;omega)).mono ?_;rintro e w4⟨B_,rfl,t⟩;clear c3 V r;have c3:=(t.o.kp _ (List.mem_cons_of_mem _ (List.mem_cons_self ..))).1.cell 0;simp only at c3
  go_wp2_with fail
  refine (in2 t 110 #[.pointer (some ⟨W.heap.size,0,none⟩),.pointer (some ⟨W.heap.size+1,0,none⟩)] (ah ⟨aj xs,its⟩ f q) (by simp) (by have:=a.o;simp;omega) (fun W'=>by kernel_rfl)
   (fun W' pv' H'=>ac_ H' (List.mem_cons_of_mem _ (List.mem_cons_self ..)) (List.mem_cons_self ..) u.o (by have:=a.o;rw [dR];simp;omega))).mono ?_
  rintro e w5⟨pv5,rfl,R⟩;clear c3 t;have c3:=(R.o.kp _ (List.mem_cons_of_mem _ (List.mem_cons_self ..))).1.cell 0;simp only at c3
  go_wp2_with fail;refine (uO R [41] (-1) (by simp) (by have:=a.o;simp [ak];omega)).mono ?_;rintro e w6⟨pv6,rfl,H6⟩;clear c3 R;go_wp2_with fail;go_end0
  exact⟨pv6,rfl,O (by rw [L.o];exact H6.o.tl.tl)⟩
 ·have L:=O (show M=ah ⟨aj xs,its⟩ f q from P.o);have a:=O (show ps.length+(ah ⟨aj xs,its⟩ f q).length≤1000000 by have:=N.o;rwa [L.o] at this);clear P N;go_wp2_with fail;refine (u.o _ _ _ _ r a.o).mono ?_;rintro e w4⟨B_,rfl,t⟩;clear c3 V r;go_wp2_with fail;go_end0
  exact⟨B_,rfl,O (by rw [L.o];exact t.o.tl.tl)⟩
end
end
set_option linter.all false
end Go.Proofs.YtajfdjikimiapaaGreatDoor
namespace Mist
theorem N_ (L:Nat→List Pz){m:Nat}:∀ n,m≤n→(dZ L m).length≤(dZ L n).length:=by
 intro n h
 induction h with
 | refl=>exact aiv _
 | step _ a =>
  rename_i k _
  refine Nat.le_trans a ?_;rw [dZ];split
  ·rename_i h0;subst h0;simp [dZ]
  ·simp
end Mist
namespace Go.Proofs.YtajfdjikimiapaaGreatDoor
section
open Go.RowKit Mist
attribute [local go_sem] au aN aV aM aG
section
variable {S:Sz} {B g n c f i j q:Nat} {w W:World} {A Bi:Option Addr} {nv iv pv:Value} {ps l:List Pz} {xs:List NV} {its:List Int} {x y:NV}
theorem ls1 (H:Hid (PZ S B g w W nv iv pv ps))(k:Nat)(d:Array Value)(L:Nat→List Pz)(many:Nat)(h0:L 0 ≠ [])(u:many≤1000000)(F:ps.length+(dZ L many).length < 1000000)
  (C:∀ (j:Nat) e,Sem.run Tryz.prog (callFunc k (#[.int .i64 (j:Nat)] ++ d)) e=.ok (.enter k (#[.int .i64 (j:Nat)] ++ d)) e)
  (D:∀ (j:Nat) e r t,j < many→t.length+(L j).length≤1000000→Hid (PZ S B g w e nv iv r t)→Calls Tryz.prog k (#[.int .i64 (j:Nat)] ++ d) e (kS S B g w nv iv (gH t (L j)))) :
  Calls Tryz.prog 63 #[.pointer (some ⟨g,0,none⟩),.int .i64 (many:Nat),.func (.func k) #[] d] W (kS S B g w nv iv (gH ps (dZ L many))) :=
 (adb H.o k d L many h0 u (fun m u=>by have:=N_ L many u;omega) C (fun j e r t h1 h2 h3=>(D j e r t h1 h2 (O h3)).mono fun _ _ h=>by
  obtain⟨E,a,b⟩:=h;exact⟨a,E,b.o⟩)).mono fun _ _ h=>pzE h
structure KX (w:World) (B g:Nat) (A:Option Addr) (n c:Nat) (iv:Value) (xs:List NV) (its:List Int) (f i:Nat) (x:NV):Prop where
 hx:xs[i]? = some x
 k:∀ j,j < x.1.kids.length→∃ q y,x.1.kids[j]? = some ((q:Nat):Int)∧xs[q]? = some y∧q < f
theorem KX.ne {f:Nat}(K:KX w B g A n c iv xs its f i x)(a:0 < f)(j:Nat)(m:j < x.1.kids.length∨j=0):bM ⟨aj xs,its⟩ (ah ⟨aj xs,its⟩ f) i j ≠ []:=by
 refine aaJ (Ju _ ?_);rw [aY its K.hx];by_cases b:j < x.1.kids.length
 ·obtain⟨q,y,e,_,d⟩:=K.k j b;rw [ait,e];exact d
 ·rw [ait,List.getElem?_eq_none (by omega)];exact a
def KE (w:World)(B g:Nat)(A:Option Addr)(n c:Nat)(iv:Value)(xs:List NV)(its:List Int)(f:Nat)(x:NV)(j:Nat):Prop:=∀ q,x.1.kids[j]? = some ((q:Nat):Int)→XC w B g A n c iv ⟨aj xs,its⟩ f q
theorem kd1 (H:Hid (PZ S B g w W (.slice A n c) iv pv ps))(X:CX w B A Bi n xs its)(K:KX w B g A n c iv xs its f i x)(d:j < x.1.kids.length)(E:KE w B g A n c iv xs its f x j)
  (e:ps.length+(bM ⟨aj xs,its⟩ (ah ⟨aj xs,its⟩ f) i j).length≤1000000) :
  Calls Tryz.prog 61 #[.pointer (some ⟨g,0,none⟩),.int .i64 i,.int .i64 j] W (kS S B g w (.slice A n c) iv (gH ps (bM ⟨aj xs,its⟩ (ah ⟨aj xs,its⟩ f) i j))):=by
 obtain⟨q,y,a,b,m⟩:=K.k j d;exact aeM H X K.hx a b (E q a) e
theorem Qh (H:Hid (PZ S B g w W (.slice A n c) iv pv ps))(X:CX w B A Bi n xs its)(K:KX w B g A n c iv xs its f i x){b2 b3:Nat}(h2:(b2,56,#[.pointer (some ⟨g,0,none⟩)]) ∈ S)(h3:(b3,3,#[.int .i64 (i:Nat)]) ∈ S)
  (k:j < x.1.kids.length) (E:KE w B g A n c iv xs its f x j) (a:ps.length+(bM ⟨aj xs,its⟩ (ah ⟨aj xs,its⟩ f) i j).length≤1000000) :
  Calls Tryz.prog 72 #[.int .i64 j,.pointer (some ⟨b2,0,none⟩),.pointer (some ⟨b3,0,none⟩)] W (kS S B g w (.slice A n c) iv (gH ps (bM ⟨aj xs,its⟩ (ah ⟨aj xs,its⟩ f) i j))):=by
 have c2:=(H.o.kp _ h2).1.cell 0;have c3:=(H.o.kp _ h3).1.cell 0;simp only at c2 c3
 have b:=O (kd1 H X K k E a);clear a E K X;go_in
 go_wp2_with fail;refine b.o.mono ?_;rintro e r⟨m,rfl,d⟩;go_wp2_with fail;go_end0
 exact⟨m,rfl,d⟩
end
end
set_option linter.all false
end Go.Proofs.YtajfdjikimiapaaGreatDoor
namespace Mist
theorem Js {k:Nat}(h:¬ (4≤k∧k≤18)∧k ≠ 22∧k ≠ 23)(j q:Nat):n_ k j q=true:=by
 unfold n_;rw [if_neg (by omega),if_neg (by omega),if_neg (by omega),if_neg (by omega)]
theorem kW {T:Tr}{B:Nat→List Pz}{i j q:Nat}(h:¬ (4≤(nd T i).kind∧(nd T i).kind≤18)∧(nd T i).kind ≠ 22∧(nd T i).kind ≠ 23)(e:(nd T i).kids[j]? = some ((q:Nat):Int)):bM T B i j=B q:=by
 unfold bM;simp only
 rw [Js h,if_pos rfl,ait,e];rfl
end Mist
namespace Go.Proofs.YtajfdjikimiapaaGreatDoor
section
open Go.RowKit Mist
attribute [local go_sem] au aN aV aM aG
def j_ (x:NV):Array Value:=#[.int .u8 (x.1.kind:Nat),.string (aU x.1.text),.int .i64 x.1.n,x.2,.int .i64 x.1.at_]
def Dv (b2 b3:Nat):Value:=.func (.func 72) #[] #[.pointer (some ⟨b2,0,none⟩),.pointer (some ⟨b3,0,none⟩)]
section
variable {S:Sz} {B g n c f i j q b2 b3 b4 b6 b7:Nat} {w W:World} {A Bi:Option Addr} {nv iv pv:Value} {ps l:List Pz} {xs:List NV} {its:List Int} {x y:NV}
theorem CX.kids (X:CX w B A Bi n xs its)(h:PZ S B g w W nv iv pv ps)(a:xs[i]? = some x):∃ K kc,x.2=.slice K x.1.kids.length kc∧x.1.kids.length≤1000000∧IntsIn W K x.1.kids:=by
 have e:=X.at_ h;have hi:=(aiq.1 a).1;obtain⟨b,o,k,d⟩:=e.nodes (by omega);exact d.kid a
theorem rl1 (H:Hid (PZ S B g w W (.slice A n c) iv pv ps))(X:CX w B A Bi n xs its)(K:KX w B g A n c iv xs its f i x)(h4:(b4,56,#[.pointer (some ⟨g,0,none⟩)]) ∈ S)(h6:(b6,39,j_ x) ∈ S)(h7:(b7,55,#[Dv b2 b3]) ∈ S)
  (h2:(b2,56,#[.pointer (some ⟨g,0,none⟩)]) ∈ S) (h3:(b3,3,#[.int .i64 (i:Nat)]) ∈ S) (G:0 < f) (E:∀ j,j < x.1.kids.length→KE w B g A n c iv xs its f x j)
  (r:ps.length+(dD ⟨aj xs,its⟩ (ah ⟨aj xs,its⟩ f) i x.1.kids.length).length < 1000000) :
  Calls Tryz.prog 124 #[.pointer (some ⟨b4,0,none⟩),.pointer (some ⟨b6,0,none⟩),.pointer (some ⟨b7,0,none⟩)] W (kS S B g w (.slice A n c) iv (gH ps (dD ⟨aj xs,its⟩ (ah ⟨aj xs,its⟩ f) i x.1.kids.length))):=by
 have c4:=(H.o.kp _ h4).1.cell 0;have F:=(H.o.kp _ h7).1.cell 0;obtain⟨M,kc,b,a,d⟩:=X.kids H.o K.hx;have D:W.cell? ⟨b6,3,none⟩=some x.2:=(H.o.kp _ h6).1.cell 3;rw [b] at D
 simp only [Dv] at c4 F
 have t:=O (ls1 H 72 #[.pointer (some ⟨b2,0,none⟩),.pointer (some ⟨b3,0,none⟩)] (bM ⟨aj xs,its⟩ (ah ⟨aj xs,its⟩ f) i) x.1.kids.length (K.ne G 0 (.inr rfl)) a r (fun j C=>by kernel_rfl)
  (fun j C L N k I h=>Qh h X K h2 h3 k (E j k) I))
 generalize x.1.kids.length=m at *
 clear r E K X d b a;go_in
 go_wp2_with fail;refine t.o.mono ?_;rintro e P⟨J,rfl,u⟩;go_wp2_with fail;go_end0
 exact⟨J,rfl,u⟩
theorem rl4 (H:Hid (PZ S B g w W (.slice A n c) iv pv ps))(X:CX w B A Bi n xs its)(K:KX w B g A n c iv xs its f i x)(h4:(b4,56,#[.pointer (some ⟨g,0,none⟩)]) ∈ S)(h6:(b6,39,j_ x) ∈ S)(h7:(b7,55,#[Dv b2 b3]) ∈ S)
  (h2:(b2,56,#[.pointer (some ⟨g,0,none⟩)]) ∈ S) (h3:(b3,3,#[.int .i64 (i:Nat)]) ∈ S) (G:0 < f) (E:∀ j,j < x.1.kids.length→KE w B g A n c iv xs its f x j)
  (r:ps.length+(dD ⟨aj xs,its⟩ (ah ⟨aj xs,its⟩ f) i x.1.kids.length).length < 1000000) :
  Calls Tryz.prog 128 #[.pointer (some ⟨b4,0,none⟩),.pointer (some ⟨b6,0,none⟩),.pointer (some ⟨b7,0,none⟩)] W (kS S B g w (.slice A n c) iv (gH ps (dD ⟨aj xs,its⟩ (ah ⟨aj xs,its⟩ f) i x.1.kids.length))):=by
 have c4:=(H.o.kp _ h4).1.cell 0;have F:=(H.o.kp _ h7).1.cell 0;obtain⟨M,kc,b,a,d⟩:=X.kids H.o K.hx;have D:W.cell? ⟨b6,3,none⟩=some x.2:=(H.o.kp _ h6).1.cell 3;rw [b] at D
 simp only [Dv] at c4 F
 have t:=O (ls1 H 72 #[.pointer (some ⟨b2,0,none⟩),.pointer (some ⟨b3,0,none⟩)] (bM ⟨aj xs,its⟩ (ah ⟨aj xs,its⟩ f) i) x.1.kids.length (K.ne G 0 (.inr rfl)) a r (fun j C=>by kernel_rfl)
  (fun j C L N k I h=>Qh h X K h2 h3 k (E j k) I))
 generalize x.1.kids.length=m at *
 clear r E K X d b a;go_in
 go_wp2_with fail;refine t.o.mono ?_;rintro e P⟨J,rfl,u⟩;go_wp2_with fail;go_end0
 exact⟨J,rfl,u⟩
theorem rk2 (H:Hid (PZ S B g w W (.slice A n c) iv pv ps))(X:CX w B A Bi n xs its)(K:KX w B g A n c iv xs its f i x)(h7:(b7,55,#[Dv b2 b3]) ∈ S)
  (h2:(b2,56,#[.pointer (some ⟨g,0,none⟩)]) ∈ S) (h3:(b3,3,#[.int .i64 (i:Nat)]) ∈ S) (m:1 < x.1.kids.length) (E:KE w B g A n c iv xs its f x 1)
  (a:ps.length+(bM ⟨aj xs,its⟩ (ah ⟨aj xs,its⟩ f) i 1).length≤1000000) :
  Calls Tryz.prog 125 #[.pointer (some ⟨b7,0,none⟩)] W (kS S B g w (.slice A n c) iv (gH ps (bM ⟨aj xs,its⟩ (ah ⟨aj xs,its⟩ f) i 1))):=by
 have k:=(H.o.kp _ h7).1.cell 0;simp only [Dv] at k
 have b:=O (Qh H X K h2 h3 m E a);clear a E K X;go_in
 go_wp2_with fail;refine b.o.mono ?_;rintro e t⟨r,rfl,d⟩;go_wp2_with fail;go_end0
 exact⟨r,rfl,d⟩
theorem aaq (H:Hid (PZ S B g w W (.slice A n c) iv pv ps))(X:CX w B A Bi n xs its)(K:KX w B g A n c iv xs its f i x)(M:x.1.kind=25)(L:0 < x.1.kids.length)(E:KE w B g A n c iv xs its f x 0)
  (d:ps.length+(aW ⟨aj xs,its⟩ (ah ⟨aj xs,its⟩ f) i).length≤1000000) :
  Calls Tryz.prog 127 #[.pointer (some ⟨g,0,none⟩),.int .i64 i] W (kS S B g w (.slice A n c) iv (gH ps (aW ⟨aj xs,its⟩ (ah ⟨aj xs,its⟩ f) i))):=by
 have en:=xK (T:=⟨aj xs,its⟩) (B:=ah ⟨aj xs,its⟩ f) (i:=i) (by rw [aY its K.hx];exact M);rw [aY its K.hx] at en
 rw [en] at d ⊢
 have hi:i < n:=by rw [← X.len];exact (aiq.1 K.hx).1
 obtain⟨b,o,J,m⟩:=(X.at_ H.o).nodes (by have:=X.len;omega);have N:=m.c1 i x K.hx;subst J;have I:=H.o.blk.cell 0;have Y:(0:Int)≤(i:Int):=by omega
 have Z:(i:Int) < (n:Int):=by omega
 have a:=O d;have G:=O X;have F:=O K;have D:=O E;clear d m X K E en
 generalize x.1.text=t at *
 go_in
 go_wp2_with fail;refine (yQ H t i (by have:=a.o;simp [ak] at this;omega)).mono ?_;rintro e R⟨P,rfl,k⟩;clear I N;go_wp2_with fail;refine (uO k [58] (-1) (by simp) (by have:=a.o;simp [ak] at this ⊢;omega)).mono ?_;rintro e U⟨Q,rfl,u⟩;clear k;go_wp2_with fail;refine (kd1 u G.o F.o (j:=0) L D.o (by have:=a.o;rw [dR];simp [ak] at this ⊢;omega)).mono ?_;rintro e V⟨r,rfl,C⟩;go_wp2_with fail;go_end0
 exact⟨r,rfl,O (by have h:=C.o;rw [qO ps _ _ (by simp)] at h;exact h)⟩
end
end
set_option linter.all false
section
open Go.RowKit Mist
attribute [local go_sem] au aN aV aM aG
def MC (fn:Nat)(w:World)(B g:Nat)(A:Option Addr)(n c:Nat)(iv:Value)(T:Tr)(f i:Nat):Prop :=
 ∀ (S:Sz) (W:World) (pv:Value) (ps:List Pz),Hid (PZ S B g w W (.slice A n c) iv pv ps)→ps.length+(ah T f i).length≤1000000 →
  Calls Tryz.prog fn #[.pointer (some ⟨g,0,none⟩),.int .i64 i] W (kS S B g w (.slice A n c) iv (gH ps (ah T f i)))
section
variable {S:Sz} {B g n c f i j q b2 b3 b4 b5 b6 b7:Nat} {w W:World} {A Bi:Option Addr} {nv iv pv:Value} {ps l:List Pz} {xs:List NV} {its:List Int} {x y:NV}
theorem rk3 (H:Hid (PZ S B g w W (.slice A n c) iv pv ps))(X:CX w B A Bi n xs its)(E:xs[i]? = some x)(h4:(b4,56,#[.pointer (some ⟨g,0,none⟩)]) ∈ S)(h6:(b6,39,j_ x) ∈ S)
  (t:x.1.kids[j]? = some ((q:Nat):Int)) (F:MC 127 w B g A n c iv ⟨aj xs,its⟩ f q) (D:ps.length+(ah ⟨aj xs,its⟩ f q).length≤1000000) :
  Calls Tryz.prog 126 #[.int .i64 j,.pointer (some ⟨b4,0,none⟩),.pointer (some ⟨b6,0,none⟩)] W (kS S B g w (.slice A n c) iv (gH ps (ah ⟨aj xs,its⟩ f q))):=by
 have c4:=(H.o.kp _ h4).1.cell 0;obtain⟨N,kc,k,r,d⟩:=X.kids H.o E;have K:j < x.1.kids.length:=(aiq.1 t).1;have C:W.cell? ⟨b6,3,none⟩=some x.2:=(H.o.kp _ h6).1.cell 3;obtain⟨kb,P,a,L,b⟩:=d.ex (by omega);have kq:=b j _ t;rw [k,a] at C
 simp only at c4
 have R:(0:Int)≤(j:Int):=by omega
 generalize x.1.kids.length=m at *
 have T:(j:Int) < (m:Int):=by omega
 have G:=O F;have I:=O D;clear D F X d k r b E t a;go_in
 go_still_tail 6,(by kernel_rfl)
 change wpList _ _ _ _ _ W.drew
 have u:=O H.o.drew
 generalize W.drew=w1 at u ⊢
 clear H c4 C kq;go_wp2_with fail;refine (G.o S _ pv ps u I.o).mono ?_;rintro e Q⟨M,rfl,J⟩;go_wp2_with fail;go_end0
 exact⟨M,rfl,J⟩
theorem br1 (H:Hid (PZ S B g w W nv iv pv ps))(k:Nat)(a:Array Value)(L:Nat→List Pz)(many:Nat)(h4:(b4,56,#[.pointer (some ⟨g,0,none⟩)]) ∈ S)(h5:(b5,3,#[.int .i64 (many:Nat)]) ∈ S)(h7:(b7,55,#[.func (.func k) #[] a]) ∈ S)
  (h0:L 0 ≠ []) (C:many≤1000000) (b:ps.length+(dZ L many).length < 1000000)
  (d:∀ (j:Nat) W',Sem.run Tryz.prog (callFunc k (#[.int .i64 (j:Nat)] ++ a)) W'=.ok (.enter k (#[.int .i64 (j:Nat)] ++ a)) W')
  (m:∀ (j:Nat) W' pv' qs,j < many→qs.length+(L j).length≤1000000→Hid (PZ S B g w W' nv iv pv' qs)→Calls Tryz.prog k (#[.int .i64 (j:Nat)] ++ a) W' (kS S B g w nv iv (gH qs (L j)))) :
  Calls Tryz.prog 107 #[.pointer (some ⟨b4,0,none⟩),.pointer (some ⟨b5,0,none⟩),.pointer (some ⟨b7,0,none⟩)] W (kS S B g w nv iv (gH ps (dZ L many))):=by
 have c4:=(H.o.kp _ h4).1.cell 0;have c5:=(H.o.kp _ h5).1.cell 0;have u:=(H.o.kp _ h7).1.cell 0;simp only at c4 c5 u
 have r:=O (ls1 H k a L many h0 C b d m);clear m d b;go_in
 go_wp2_with fail;refine r.o.mono ?_;rintro e E⟨D,rfl,t⟩;go_wp2_with fail;go_end0
 exact⟨D,rfl,t⟩
theorem Jw (b:Bool)(H:Hid (PZ S B g w W nv iv pv (gH ps l)))(U:l ≠ [])(k:Nat)(a:Array Value)(L:Nat→List Pz)(many:Nat)(h0:L 0 ≠ [])(Q:ps.length+l.length+(dZ L many).length+2≤1000000)(V:many≤1000000)
  (E:∀ (j:Nat) m,Sem.run Tryz.prog (callFunc k (#[.int .i64 (j:Nat)] ++ a)) m=.ok (.enter k (#[.int .i64 (j:Nat)] ++ a)) m)
  (R:∀ (M:Sz) (j:Nat) m d C,(∀ e ∈ S,e ∈ M)→j < many→C.length+(L j).length≤1000000→Hid (PZ M B g w m nv iv d C)→Calls Tryz.prog k (#[.int .i64 (j:Nat)] ++ a) m (kS M B g w nv iv (gH C (L j)))) :
  Calls Tryz.prog 57 #[.pointer (some ⟨g,0,none⟩),.int .i64 (many:Nat),.bool b,.func (.func k) #[] a] W (kS S B g w nv iv (gH ps (l ++ ⟨[123],!(b),-1⟩ :: (aH false (dZ L many) ++ [tz [125] (-1)])))):=by
 have X:(W.alloc (.cells #[.pointer (some ⟨g,0,none⟩)] 56)).heap.size=W.heap.size+1:=by simp
 have Y:((W.alloc (.cells #[.pointer (some ⟨g,0,none⟩)] 56)).alloc (.cells #[.int .i64 (many:Nat)] 3)).heap.size=W.heap.size+2:=by simp
 have F:=O (H.o.box (T:=56) (cs:=#[.pointer (some ⟨g,0,none⟩)]) (by decide));have G:=O (F.o.box (T:=3) (cs:=#[.int .i64 (many:Nat)]) (by decide));have D:=O (G.o.box (T:=55) (cs:=#[.func (.func k) #[] a]) (by decide));rw [X,Y] at D
 have N:=O E;have P:=O R;have r:=O Q;clear F G H R E Q;have c4:=(D.o.kp _ (List.mem_cons_of_mem _ (List.mem_cons_of_mem _ (List.mem_cons_self ..)))).1.cell 0;simp only at c4
 cases b
 ·go_in
  go_wp2_with fail;refine (EO D [123] (-1) U (by have:=r.o;omega)).mono ?_;rintro e w2⟨Z,rfl,t⟩;clear c4 D;have c4:=(t.o.kp _ (List.mem_cons_of_mem _ (List.mem_cons_of_mem _ (List.mem_cons_self ..)))).1.cell 0;simp only at c4
  go_wp2_with fail
  refine (in2 t 107 #[.pointer (some ⟨W.heap.size,0,none⟩),.pointer (some ⟨W.heap.size+1,0,none⟩),.pointer (some ⟨W.heap.size+2,0,none⟩)] (dZ L many) (by simp) (by have:=r.o;simp;omega) (fun m=>by kernel_rfl)
   (fun m d J=>br1 J k a L many (List.mem_cons_of_mem _ (List.mem_cons_of_mem _ (List.mem_cons_self ..))) (List.mem_cons_of_mem _ (List.mem_cons_self ..)) (List.mem_cons_self ..) h0 V (by have:=r.o;rw [dR];simp;omega) N.o
    (fun j m d C h1 h2 h3=>P.o _ j m d C (fun e E=>List.mem_cons_of_mem _ (List.mem_cons_of_mem _ (List.mem_cons_of_mem _ E))) h1 h2 h3))).mono ?_
  rintro e w3⟨sw,rfl,u⟩;clear c4 t;have c4:=(u.o.kp _ (List.mem_cons_of_mem _ (List.mem_cons_of_mem _ (List.mem_cons_self ..)))).1.cell 0;simp only at c4
  go_wp2_with fail;refine (uO u [125] (-1) (by simp) (by have:=r.o;simp [ak];omega)).mono ?_;rintro e w4⟨I,rfl,K⟩;clear c4 u;go_wp2_with fail;go_end0
  exact⟨I,rfl,O (by have h:=K.o.tl.tl.tl;simp only [List.append_assoc,List.cons_append,List.nil_append] at h;exact h)⟩
 ·go_in
  go_wp2_with fail;refine (uO D [123] (-1) U (by have:=r.o;omega)).mono ?_;rintro e w2⟨Z,rfl,t⟩;clear c4 D;have c4:=(t.o.kp _ (List.mem_cons_of_mem _ (List.mem_cons_of_mem _ (List.mem_cons_self ..)))).1.cell 0;simp only at c4
  go_wp2_with fail
  refine (in2 t 107 #[.pointer (some ⟨W.heap.size,0,none⟩),.pointer (some ⟨W.heap.size+1,0,none⟩),.pointer (some ⟨W.heap.size+2,0,none⟩)] (dZ L many) (by simp) (by have:=r.o;simp;omega) (fun m=>by kernel_rfl)
   (fun m d J=>br1 J k a L many (List.mem_cons_of_mem _ (List.mem_cons_of_mem _ (List.mem_cons_self ..))) (List.mem_cons_of_mem _ (List.mem_cons_self ..)) (List.mem_cons_self ..) h0 V (by have:=r.o;rw [dR];simp;omega) N.o
    (fun j m d C h1 h2 h3=>P.o _ j m d C (fun e E=>List.mem_cons_of_mem _ (List.mem_cons_of_mem _ (List.mem_cons_of_mem _ E))) h1 h2 h3))).mono ?_
  rintro e w3⟨sw,rfl,u⟩;clear c4 t;have c4:=(u.o.kp _ (List.mem_cons_of_mem _ (List.mem_cons_of_mem _ (List.mem_cons_self ..)))).1.cell 0;simp only at c4
  go_wp2_with fail;refine (uO u [125] (-1) (by simp) (by have:=r.o;simp [ak];omega)).mono ?_;rintro e w4⟨I,rfl,K⟩;clear c4 u;go_wp2_with fail;go_end0
  exact⟨I,rfl,O (by have h:=K.o.tl.tl.tl;simp only [List.append_assoc,List.cons_append,List.nil_append] at h;exact h)⟩
end
end
set_option linter.all false
section
open Go.RowKit Mist
theorem lK (T E:TypeId)(m:Tryz.prog.underlying T=some (.map 5 E))(w:World)(a:List (Nat × Value))(k K:Nat)(v:Value)(b:a[k]? = some (K,v))(o:(pV K (a.take k)).isNone=true) :
  (Instr.mapUpdate T (.map (some w.heap.size)) (.int .u8 K) v).run Tryz.prog (w.alloc (.map (gD (a.take k) 0).toArray k))=.ok () (w.alloc (.map (gD (a.take (k+1)) 0).toArray (k+1))):=by
 have e:k < a.length:=(aiq.1 b).1;have h:=gT T E m w (a.take k) K v (by simpa using o);have d:(a.take k).length=k:=by rw [List.length_take];omega
 rw [d] at h
 rw [h,List.take_succ_eq_append_getElem e];rw [aip e] at b
 injection b with b
 rw [b]
def fq:List (Nat × Value):=[(5,.string (aU [110,111,116])),(6,.string (aU [43])),(7,.string (aU [45])),(8,.string (aU [42])),(9,.string (aU [47])),(10,.string (aU [37])),(11,.string (aU [61,61])),(12,.string (aU [33,61])),(13,.string (aU [60])),(14,.string (aU [60,61])),(15,.string (aU [62])),(16,.string (aU [62,61])),(17,.string (aU [97,110,100])),(18,.string (aU [111,114]))]
def AZ (k:Nat):Bs:=if k=5 then [110,111,116] else if 6≤k∧k≤18 then mQ k else []
theorem Y7 (x:Nat):(pV x fq).getD (.string ByteArray.empty)=.string (aU (AZ x)):=by
 by_cases h:x < 19
 ·have h2:∀ j:Fin 19,∃ s,(pV j.val fq).getD (.string ByteArray.empty)=.string (aU s)∧s=AZ j.val:=by
   intro j;obtain⟨j,d⟩:=j;have b:j=0∨j=1∨j=2∨j=3∨j=4∨j=5∨j=6∨j=7∨j=8∨j=9∨j=10∨j=11∨j=12∨j=13∨j=14∨j=15∨j=16∨j=17∨j=18:=by omega
   rcases b with rfl | rfl | rfl | rfl | rfl | rfl | rfl | rfl | rfl | rfl | rfl | rfl | rfl | rfl | rfl | rfl | rfl | rfl | rfl <;> first | exact⟨_,rfl,rfl⟩ | exact⟨[],rfl,rfl⟩
  obtain⟨s,e,rfl⟩:=h2 ⟨x,h⟩;exact e
 ·have a:AZ x=[]:=by unfold AZ;rw [if_neg (by omega),if_neg (by omega)]
  rw [a];simp only [fq,pV]
  repeat rw [if_neg (by omega)]
  rfl
theorem Gf (w:World):(zeroValue 9).run Tryz.prog w=.ok (.string ByteArray.empty) w:=by kernel_rfl
theorem xB (w:World)(m c:Nat)(a:w.heap[m]? = some (.map (gD fq 0).toArray c))(x:Nat):(Instr.lookup 94 (.map (some m)) (.int .u8 x) false).run Tryz.prog w=.ok (.string (aU (AZ x))) w:=by
 have h:=DC 94 9 (.string ByteArray.empty) Tryz.underlying94 w (Gf w) fq m c a x;rw [h,Y7]
theorem UL (w:World):Calls Tryz.prog 76 #[] w fun e o=>e=.returned (.map (some w.heap.size))∧o=w.alloc (.map (gD fq 0).toArray 14):=by
 have a:=@run_makeMap Tryz.prog;have r:(Instr.mapUpdate 94 (.map (some w.heap.size)) (.int .u8 5) (.string ⟨#[110,111,116]⟩)).run Tryz.prog (w.alloc (.map #[] 0))=.ok () (w.alloc (.map (gD (fq.take 1) 0).toArray 1)):=lK 94 9 Tryz.underlying94 w fq 0 5 _ rfl rfl;have t:(Instr.mapUpdate 94 (.map (some w.heap.size)) (.int .u8 6) (.string ⟨#[43]⟩)).run Tryz.prog (w.alloc (.map (gD (fq.take 1) 0).toArray 1))=.ok () (w.alloc (.map (gD (fq.take 2) 0).toArray 2)):=lK 94 9 Tryz.underlying94 w fq 1 6 _ rfl rfl;have u:(Instr.mapUpdate 94 (.map (some w.heap.size)) (.int .u8 7) (.string ⟨#[45]⟩)).run Tryz.prog (w.alloc (.map (gD (fq.take 2) 0).toArray 2))=.ok () (w.alloc (.map (gD (fq.take 3) 0).toArray 3)):=lK 94 9 Tryz.underlying94 w fq 2 7 _ rfl rfl;have C:(Instr.mapUpdate 94 (.map (some w.heap.size)) (.int .u8 8) (.string ⟨#[42]⟩)).run Tryz.prog (w.alloc (.map (gD (fq.take 3) 0).toArray 3))=.ok () (w.alloc (.map (gD (fq.take 4) 0).toArray 4)):=lK 94 9 Tryz.underlying94 w fq 3 8 _ rfl rfl;have D:(Instr.mapUpdate 94 (.map (some w.heap.size)) (.int .u8 9) (.string ⟨#[47]⟩)).run Tryz.prog (w.alloc (.map (gD (fq.take 4) 0).toArray 4))=.ok () (w.alloc (.map (gD (fq.take 5) 0).toArray 5)):=lK 94 9 Tryz.underlying94 w fq 4 9 _ rfl rfl;have E:(Instr.mapUpdate 94 (.map (some w.heap.size)) (.int .u8 10) (.string ⟨#[37]⟩)).run Tryz.prog (w.alloc (.map (gD (fq.take 5) 0).toArray 5))=.ok () (w.alloc (.map (gD (fq.take 6) 0).toArray 6)):=lK 94 9 Tryz.underlying94 w fq 5 10 _ rfl rfl;have F:(Instr.mapUpdate 94 (.map (some w.heap.size)) (.int .u8 11) (.string ⟨#[61,61]⟩)).run Tryz.prog (w.alloc (.map (gD (fq.take 6) 0).toArray 6))=.ok () (w.alloc (.map (gD (fq.take 7) 0).toArray 7)):=lK 94 9 Tryz.underlying94 w fq 6 11 _ rfl rfl;have G:(Instr.mapUpdate 94 (.map (some w.heap.size)) (.int .u8 12) (.string ⟨#[33,61]⟩)).run Tryz.prog (w.alloc (.map (gD (fq.take 7) 0).toArray 7))=.ok () (w.alloc (.map (gD (fq.take 8) 0).toArray 8)):=lK 94 9 Tryz.underlying94 w fq 7 12 _ rfl rfl;have H:(Instr.mapUpdate 94 (.map (some w.heap.size)) (.int .u8 13) (.string ⟨#[60]⟩)).run Tryz.prog (w.alloc (.map (gD (fq.take 8) 0).toArray 8))=.ok () (w.alloc (.map (gD (fq.take 9) 0).toArray 9)):=lK 94 9 Tryz.underlying94 w fq 8 13 _ rfl rfl;have I:(Instr.mapUpdate 94 (.map (some w.heap.size)) (.int .u8 14) (.string ⟨#[60,61]⟩)).run Tryz.prog (w.alloc (.map (gD (fq.take 9) 0).toArray 9))=.ok () (w.alloc (.map (gD (fq.take 10) 0).toArray 10)):=lK 94 9 Tryz.underlying94 w fq 9 14 _ rfl rfl;have b:(Instr.mapUpdate 94 (.map (some w.heap.size)) (.int .u8 15) (.string ⟨#[62]⟩)).run Tryz.prog (w.alloc (.map (gD (fq.take 10) 0).toArray 10))=.ok () (w.alloc (.map (gD (fq.take 11) 0).toArray 11)):=lK 94 9 Tryz.underlying94 w fq 10 15 _ rfl rfl;have d:(Instr.mapUpdate 94 (.map (some w.heap.size)) (.int .u8 16) (.string ⟨#[62,61]⟩)).run Tryz.prog (w.alloc (.map (gD (fq.take 11) 0).toArray 11))=.ok () (w.alloc (.map (gD (fq.take 12) 0).toArray 12)):=lK 94 9 Tryz.underlying94 w fq 11 16 _ rfl rfl;have k:(Instr.mapUpdate 94 (.map (some w.heap.size)) (.int .u8 17) (.string ⟨#[97,110,100]⟩)).run Tryz.prog (w.alloc (.map (gD (fq.take 12) 0).toArray 12))=.ok () (w.alloc (.map (gD (fq.take 13) 0).toArray 13)):=lK 94 9 Tryz.underlying94 w fq 12 17 _ rfl rfl;have m:(Instr.mapUpdate 94 (.map (some w.heap.size)) (.int .u8 18) (.string ⟨#[111,114]⟩)).run Tryz.prog (w.alloc (.map (gD (fq.take 13) 0).toArray 13))=.ok () (w.alloc (.map (gD (fq.take 14) 0).toArray 14)):=lK 94 9 Tryz.underlying94 w fq 13 18 _ rfl rfl;go_in
 go_wp2_with fail;go_ret;exact⟨rfl,rfl⟩
end
set_option linter.all false
section
open Go.RowKit Mist
attribute [local go_sem] au aN aV aM aG
abbrev rS (h g b2 b3:Nat) (cs:Array Value) (S:Sz):Sz:=(h+2,55,#[Dv b2 b3]) :: (h+1,39,cs) :: (h,56,#[.pointer (some ⟨g,0,none⟩)]) :: S
section
variable {S:Sz} {B g n c f i j q b2 b3 h:Nat} {cs:Array Value} {w W:World} {A Bi:Option Addr} {nv iv pv:Value} {ps l:List Pz} {xs:List NV} {its:List Int} {x y:NV}
theorem rsH (b2 b3:Nat)(cs:Array Value)(H:Hid (PZ S B g w W nv iv pv ps)):Hid (PZ (rS W.heap.size g b2 b3 cs S) B g w (((W.alloc (.cells #[.pointer (some ⟨g,0,none⟩)] 56)).alloc (.cells cs 39)).alloc (.cells #[Dv b2 b3] 55)) nv iv pv ps):=by
 have a:(W.alloc (.cells #[.pointer (some ⟨g,0,none⟩)] 56)).heap.size=W.heap.size+1:=by simp
 have b:((W.alloc (.cells #[.pointer (some ⟨g,0,none⟩)] 56)).alloc (.cells cs 39)).heap.size=W.heap.size+2:=by simp
 have h3:=((H.o.box (T:=56) (cs:=#[.pointer (some ⟨g,0,none⟩)]) (by decide)).box (T:=39) (cs:=cs) (by decide)).box (T:=55) (cs:=#[Dv b2 b3]) (by decide);rw [a,b] at h3
 exact O h3
theorem gZ (H:Hid (PZ (rS h g b2 b3 cs S) B g w W nv iv pv ps)):W.cell? ⟨h,0,none⟩=some (.pointer (some ⟨g,0,none⟩))∧W.cell? ⟨h+1,0,none⟩=cs[0]? ∧ W.cell? ⟨h+1,1,none⟩=cs[1]? ∧ W.cell? ⟨h+1,3,none⟩=cs[3]? ∧ W.cell? ⟨h+2,0,none⟩=some (.func (.func 72) #[] #[.pointer (some ⟨b2,0,none⟩),.pointer (some ⟨b3,0,none⟩)]) :=
 ⟨(H.o.kp _ (List.mem_cons_of_mem _ (List.mem_cons_of_mem _ (List.mem_cons_self ..)))).1.cell 0,(H.o.kp _ (List.mem_cons_of_mem _ (List.mem_cons_self ..))).1.cell 0,(H.o.kp _ (List.mem_cons_of_mem _ (List.mem_cons_self ..))).1.cell 1,(H.o.kp _ (List.mem_cons_of_mem _ (List.mem_cons_self ..))).1.cell 3,(H.o.kp _ (List.mem_cons_self ..)).1.cell 0⟩
theorem adl (h g b2 b3:Nat)(S:Sz)(e:j_ x=cs):(h+1,39,j_ x) ∈ rS h g b2 b3 cs S:=by rw [e];exact List.mem_cons_of_mem _ (List.mem_cons_self ..)
theorem adk (h g b2 b3:Nat)(cs:Array Value)(S:Sz):(h+2,55,#[Dv b2 b3]) ∈ rS h g b2 b3 cs S:=List.mem_cons_self ..
theorem adn (h g b2 b3:Nat)(cs:Array Value)(S:Sz):(h,56,#[.pointer (some ⟨g,0,none⟩)]) ∈ rS h g b2 b3 cs S:=List.mem_cons_of_mem _ (List.mem_cons_of_mem _ (List.mem_cons_self ..))
theorem yA {e:Nat × TypeId × Array Value}(a:e ∈ S):e ∈ rS h g b2 b3 cs S:=List.mem_cons_of_mem _ (List.mem_cons_of_mem _ (List.mem_cons_of_mem _ a))
theorem PZ.rs (H:PZ (rS h g b2 b3 cs S) B g w W nv iv pv ps):PZ S B g w W nv iv pv ps:=H.tl.tl.tl
theorem QO {W a:World}(d:Below W.heap.size W a):Calls Tryz.prog 76 #[] a fun e b=>∃ k c,e=.returned (.map (some k))∧b.heap[k]? = some (.map (gD fq 0).toArray c)∧Below W.heap.size W b:=by
 refine (UL a).mono ?_;rintro e m⟨rfl,rfl⟩;exact⟨_,14,rfl,heap_alloc_new a _,d.alloc d.size _⟩
theorem TT (H:Hid (PZ S B g w W (.slice A n c) iv pv ps))(X:CX w B A Bi n xs its)(K:KX w B g A n c iv xs its f i x)(P:x.1.kind=21)(h2:(b2,56,#[.pointer (some ⟨g,0,none⟩)]) ∈ S)(h3:(b3,3,#[.int .i64 (i:Nat)]) ∈ S)(hf:0 < f)(E:∀ j,j < x.1.kids.length→KE w B g A n c iv xs its f x j)
  (J:ps.length+(aW ⟨aj xs,its⟩ (ah ⟨aj xs,its⟩ f) i).length≤1000000) :
  Calls Tryz.prog 77 #[.pointer (some ⟨g,0,none⟩),.int .i64 i,.agg (j_ x),Dv b2 b3] W (kS S B g w (.slice A n c) iv (gH ps (aW ⟨aj xs,its⟩ (ah ⟨aj xs,its⟩ f) i))):=by
 have en:=xG (T:=⟨aj xs,its⟩) (B:=ah ⟨aj xs,its⟩ f) (i:=i) (by rw [aY its K.hx];exact P)
 try rw [aY its K.hx] at en
 rw [en] at J ⊢
 obtain⟨N,kc,t,hkl,I⟩:=X.kids H.o K.hx;obtain⟨m,L⟩:∃ m,m=x.1.kids.length:=⟨_,rfl⟩;have G:j_ x=#[.int .u8 21,.string (aU x.1.text),.int .i64 x.1.n,.slice N m kc,.int .i64 x.1.at_]:=by unfold j_;rw [P,t,L];rfl
 have F:=rsH b2 b3 #[.int .u8 21,.string (aU x.1.text),.int .i64 x.1.n,.slice N m kc,.int .i64 x.1.at_] H;have Q:=O G;have r:=O J;have Y:=O X;have V:=O K;have HM:=O L;have U:=O E;obtain⟨c4,b,d,k,a⟩:=gZ F;rw [G];unfold Dv;clear H t I J X K G L en E;go_in
 go_wp2_with fail;refine (yQ F x.1.text (i:Int) (by have:=r.o;simp [ak] at this;omega)).mono ?_;rintro e w1⟨vP,rfl,u⟩;clear c4 b d k a F;obtain⟨c4,b,d,k,a⟩:=gZ u;go_wp2_with fail;refine (uO u [40] (-1) (by simp) (by have:=r.o;simp [ak] at this ⊢;omega)).mono ?_;rintro e w2⟨l8,rfl,C⟩;clear c4 b d k a u;obtain⟨c4,b,d,k,a⟩:=gZ C;go_wp2_with fail;refine (in2 C 124 #[.pointer (some ⟨W.heap.size,0,none⟩),.pointer (some ⟨W.heap.size+1,0,none⟩),.pointer (some ⟨W.heap.size+2,0,none⟩)] (dD ⟨aj xs,its⟩ (ah ⟨aj xs,its⟩ f) i x.1.kids.length) (by simp) (by have:=r.o;simp [ak] at this ⊢;omega) (fun Z=>by kernel_rfl) (fun Z pv' R=>rl1 R Y.o V.o (adn _ _ _ _ _ _) (adl _ _ _ _ _ Q.o) (adk _ _ _ _ _ _) (yA h2) (yA h3) hf U.o (by have:=r.o;rw [dR];simp [ak] at this ⊢;omega))).mono ?_;rintro e w3⟨sw,rfl,D⟩;clear c4 b d k a C;obtain⟨c4,b,d,k,a⟩:=gZ D;go_wp2_with fail;refine (uO D [41] (-1) (by simp) (by have:=r.o;simp [ak] at this ⊢;omega)).mono ?_;rintro e w4⟨B_,rfl,M⟩;clear c4 b d k a D;obtain⟨c4,b,d,k,a⟩:=gZ M;go_wp2_with fail;go_end0
 exact⟨_,rfl,O (by have h:=M.o.rs;simpa [List.append_assoc] using h)⟩
theorem OD (H:Hid (PZ S B g w W (.slice A n c) iv pv ps))(X:CX w B A Bi n xs its)(K:KX w B g A n c iv xs its f i x)(N:x.1.kind=26)(h2:(b2,56,#[.pointer (some ⟨g,0,none⟩)]) ∈ S)(h3:(b3,3,#[.int .i64 (i:Nat)]) ∈ S)(Z:0 < f)(E:∀ j,j < x.1.kids.length→KE w B g A n c iv xs its f x j)
  (I:ps.length+(aW ⟨aj xs,its⟩ (ah ⟨aj xs,its⟩ f) i).length≤1000000) :
  Calls Tryz.prog 77 #[.pointer (some ⟨g,0,none⟩),.int .i64 i,.agg (j_ x),Dv b2 b3] W (kS S B g w (.slice A n c) iv (gH ps (aW ⟨aj xs,its⟩ (ah ⟨aj xs,its⟩ f) i))):=by
 have en:=xL (T:=⟨aj xs,its⟩) (B:=ah ⟨aj xs,its⟩ f) (i:=i) (by rw [aY its K.hx];exact N)
 try rw [aY its K.hx] at en
 rw [en] at I ⊢
 obtain⟨M,kc,r,hkl,G⟩:=X.kids H.o K.hx;obtain⟨m,J⟩:∃ m,m=x.1.kids.length:=⟨_,rfl⟩;have F:j_ x=#[.int .u8 26,.string (aU x.1.text),.int .i64 x.1.n,.slice M m kc,.int .i64 x.1.at_]:=by unfold j_;rw [N,r,J];rfl
 have D:=rsH b2 b3 #[.int .u8 26,.string (aU x.1.text),.int .i64 x.1.n,.slice M m kc,.int .i64 x.1.at_] H;have P:=O F;have t:=O I;have V:=O X;have U:=O K;have HM:=O J;have R:=O E;obtain⟨c4,b,d,k,a⟩:=gZ D;rw [F];unfold Dv;clear H r G I X K F J en E;go_in
 go_wp2_with fail;refine (yQ D [91] (i:Int) (by have:=t.o;simp [ak] at this;omega)).mono ?_;rintro e w1⟨vP,rfl,u⟩;clear c4 b d k a D;obtain⟨c4,b,d,k,a⟩:=gZ u;go_wp2_with fail;refine (in2 u 128 #[.pointer (some ⟨W.heap.size,0,none⟩),.pointer (some ⟨W.heap.size+1,0,none⟩),.pointer (some ⟨W.heap.size+2,0,none⟩)] (dD ⟨aj xs,its⟩ (ah ⟨aj xs,its⟩ f) i x.1.kids.length) (by simp) (by have:=t.o;simp [ak] at this ⊢;omega) (fun Y=>by kernel_rfl) (fun Y pv' Q=>rl4 Q V.o U.o (adn _ _ _ _ _ _) (adl _ _ _ _ _ P.o) (adk _ _ _ _ _ _) (yA h2) (yA h3) Z R.o (by have:=t.o;rw [dR];simp [ak] at this ⊢;omega))).mono ?_;rintro e w2⟨l8,rfl,C⟩;clear c4 b d k a u;obtain⟨c4,b,d,k,a⟩:=gZ C;go_wp2_with fail;refine (uO C [93] (-1) (by simp) (by have:=t.o;simp [ak] at this ⊢;omega)).mono ?_;rintro e w3⟨sw,rfl,L⟩;clear c4 b d k a C;obtain⟨c4,b,d,k,a⟩:=gZ L;go_wp2_with fail;go_end0
 exact⟨_,rfl,O (by have h:=L.o.rs;simpa [List.append_assoc] using h)⟩
theorem OE (H:Hid (PZ S B g w W (.slice A n c) iv pv ps))(X:CX w B A Bi n xs its)(K:KX w B g A n c iv xs its f i x)(N:x.1.kind=22)(h2:(b2,56,#[.pointer (some ⟨g,0,none⟩)]) ∈ S)(h3:(b3,3,#[.int .i64 (i:Nat)]) ∈ S)(V:0 < f)(Z:x.1.kids.length=1)(E:∀ j,j < x.1.kids.length→KE w B g A n c iv xs its f x j)
  (I:ps.length+(aW ⟨aj xs,its⟩ (ah ⟨aj xs,its⟩ f) i).length≤1000000) :
  Calls Tryz.prog 77 #[.pointer (some ⟨g,0,none⟩),.int .i64 i,.agg (j_ x),Dv b2 b3] W (kS S B g w (.slice A n c) iv (gH ps (aW ⟨aj xs,its⟩ (ah ⟨aj xs,its⟩ f) i))):=by
 have en:=xH (T:=⟨aj xs,its⟩) (B:=ah ⟨aj xs,its⟩ f) (i:=i) (by rw [aY its K.hx];exact N)
 try rw [aY its K.hx] at en
 rw [en] at I ⊢
 obtain⟨M,kc,r,Y,G⟩:=X.kids H.o K.hx;obtain⟨m,J⟩:∃ m,m=x.1.kids.length:=⟨_,rfl⟩;have F:j_ x=#[.int .u8 22,.string (aU x.1.text),.int .i64 x.1.n,.slice M m kc,.int .i64 x.1.at_]:=by unfold j_;rw [N,r,J];rfl
 have D:=rsH b2 b3 #[.int .u8 22,.string (aU x.1.text),.int .i64 x.1.n,.slice M m kc,.int .i64 x.1.at_] H;have EB:=O F;have C:=O I;have R:=O X;have Q:=O K;have U:=O (K.ne V 0 (.inr rfl));have HM:=O J;have P:=O E;obtain⟨c4,b,d,k,a⟩:=gZ D;rw [F];unfold Dv;clear H r G I X K F J en E;go_in
 go_wp2_with fail;refine (Qh D R.o Q.o (yA h2) (yA h3) (j:=0) (by omega) (P.o 0 (by omega)) (by have:=C.o;simp [ak] at this;omega)).mono ?_;rintro e w1⟨vP,rfl,t⟩;clear c4 b d k a D;obtain⟨c4,b,d,k,a⟩:=gZ t;go_wp2_with fail;refine (uO t [46] (i:Int) (U.o) (by have:=C.o;simp [ak] at this ⊢;omega)).mono ?_;rintro e w2⟨l8,rfl,u⟩;clear c4 b d k a t;obtain⟨c4,b,d,k,a⟩:=gZ u;go_wp2_with fail;refine (uO u x.1.text (-1) (by simp) (by have:=C.o;simp [ak] at this ⊢;omega)).mono ?_;rintro e w3⟨sw,rfl,L⟩;clear c4 b d k a u;obtain⟨c4,b,d,k,a⟩:=gZ L;go_wp2_with fail;go_end0
 exact⟨_,rfl,O (by have h:=L.o.rs;simpa [List.append_assoc] using h)⟩
theorem OG (H:Hid (PZ S B g w W (.slice A n c) iv pv ps))(X:CX w B A Bi n xs its)(K:KX w B g A n c iv xs its f i x)(U:x.1.kind=23)(h2:(b2,56,#[.pointer (some ⟨g,0,none⟩)]) ∈ S)(h3:(b3,3,#[.int .i64 (i:Nat)]) ∈ S)(hf:0 < f)(hm1:x.1.kids.length=2)(E:∀ j,j < x.1.kids.length→KE w B g A n c iv xs its f x j)
  (J:ps.length+(aW ⟨aj xs,its⟩ (ah ⟨aj xs,its⟩ f) i).length≤1000000) :
  Calls Tryz.prog 77 #[.pointer (some ⟨g,0,none⟩),.int .i64 i,.agg (j_ x),Dv b2 b3] W (kS S B g w (.slice A n c) iv (gH ps (aW ⟨aj xs,its⟩ (ah ⟨aj xs,its⟩ f) i))):=by
 have en:=xI (T:=⟨aj xs,its⟩) (B:=ah ⟨aj xs,its⟩ f) (i:=i) (by rw [aY its K.hx];exact U)
 try rw [aY its K.hx] at en
 rw [en] at J ⊢
 obtain⟨R,kc,t,hkl,I⟩:=X.kids H.o K.hx;obtain⟨m,L⟩:∃ m,m=x.1.kids.length:=⟨_,rfl⟩;have G:j_ x=#[.int .u8 23,.string (aU x.1.text),.int .i64 x.1.n,.slice R m kc,.int .i64 x.1.at_]:=by unfold j_;rw [U,t,L];rfl
 have F:=rsH b2 b3 #[.int .u8 23,.string (aU x.1.text),.int .i64 x.1.n,.slice R m kc,.int .i64 x.1.at_] H;have EB:=O G;have r:=O J;have Q:=O X;have P:=O K;have Y:=O (K.ne hf 0 (.inr rfl));have HM:=O L;have N:=O E;obtain⟨c4,b,d,k,a⟩:=gZ F;rw [G];unfold Dv;clear H t I J X K G L en E;go_in
 go_wp2_with fail;refine (Qh F Q.o P.o (yA h2) (yA h3) (j:=0) (by omega) (N.o 0 (by omega)) (by have:=r.o;simp [ak] at this;omega)).mono ?_;rintro e w1⟨vP,rfl,u⟩;clear c4 b d k a F;obtain⟨c4,b,d,k,a⟩:=gZ u;go_wp2_with fail;refine (uO u [91] (i:Int) (Y.o) (by have:=r.o;simp [ak] at this ⊢;omega)).mono ?_;rintro e w2⟨l8,rfl,C⟩;clear c4 b d k a u;obtain⟨c4,b,d,k,a⟩:=gZ C;go_wp2_with fail;refine (in2 C 125 #[.pointer (some ⟨W.heap.size+2,0,none⟩)] (bM ⟨aj xs,its⟩ (ah ⟨aj xs,its⟩ f) i 1) (by simp) (by have:=r.o;simp [ak] at this ⊢;omega) (fun Z=>by kernel_rfl) (fun Z pv' V=>rk2 V Q.o P.o (adk _ _ _ _ _ _) (yA h2) (yA h3) (by omega) (N.o 1 (by omega)) (by have:=r.o;rw [dR];simp [ak] at this ⊢;omega))).mono ?_;rintro e w3⟨sw,rfl,D⟩;clear c4 b d k a C;obtain⟨c4,b,d,k,a⟩:=gZ D;go_wp2_with fail;refine (uO D [93] (-1) (by simp) (by have:=r.o;simp [ak] at this ⊢;omega)).mono ?_;rintro e w4⟨B_,rfl,M⟩;clear c4 b d k a D;obtain⟨c4,b,d,k,a⟩:=gZ M;go_wp2_with fail;go_end0
 exact⟨_,rfl,O (by have h:=M.o.rs;simpa [List.append_assoc] using h)⟩
theorem YC (H:Hid (PZ S B g w W (.slice A n c) iv pv ps))(X:CX w B A Bi n xs its)(K:KX w B g A n c iv xs its f i x)(V:x.1.kind=24)(h2:(b2,56,#[.pointer (some ⟨g,0,none⟩)]) ∈ S)(h3:(b3,3,#[.int .i64 (i:Nat)]) ∈ S)(hf:0 < f)(hm1:1≤x.1.kids.length)(F:∀ j q,j < x.1.kids.length→x.1.kids[j]? = some ((q:Nat):Int)→MC 127 w B g A n c iv ⟨aj xs,its⟩ f q)
  (M:ps.length+(aW ⟨aj xs,its⟩ (ah ⟨aj xs,its⟩ f) i).length≤1000000) :
  Calls Tryz.prog 77 #[.pointer (some ⟨g,0,none⟩),.int .i64 i,.agg (j_ x),Dv b2 b3] W (kS S B g w (.slice A n c) iv (gH ps (aW ⟨aj xs,its⟩ (ah ⟨aj xs,its⟩ f) i))):=by
 have en:=xJ (T:=⟨aj xs,its⟩) (B:=ah ⟨aj xs,its⟩ f) (i:=i) (by rw [aY its K.hx];exact V)
 try rw [aY its K.hx] at en
 rw [en] at M ⊢
 obtain⟨R,kc,d,L,J⟩:=X.kids H.o K.hx;obtain⟨m,N⟩:∃ m,m=x.1.kids.length:=⟨_,rfl⟩;have I:j_ x=#[.int .u8 24,.string (aU x.1.text),.int .i64 x.1.n,.slice R m kc,.int .i64 x.1.at_]:=by unfold j_;rw [V,d,N];rfl
 have E:=rsH b2 b3 #[.int .u8 24,.string (aU x.1.text),.int .i64 x.1.n,.slice R m kc,.int .i64 x.1.at_] H;have EB:=O I;have Q:=O M;have HX:=O X;have a:=O K;have b:=O N;have HF:=O F;obtain⟨c4,t,u,C,r⟩:=gZ E;rw [I];unfold Dv;clear H d J M X K I N en F;go_in
 go_wp2_with fail;refine (yQ E x.1.text (i:Int) (by have:=Q.o;simp [ak] at this;omega)).mono ?_;rintro e w1⟨vP,rfl,D⟩;clear c4 t u C r E;obtain⟨c4,t,u,C,r⟩:=gZ D;go_wp2_with fail
 refine (Jw true D (by simp) 126 #[.pointer (some ⟨W.heap.size,0,none⟩),.pointer (some ⟨W.heap.size+1,0,none⟩)] (bM ⟨aj xs,its⟩ (ah ⟨aj xs,its⟩ f) i) m (a.o.ne hf 0 (.inr rfl)) (by have:=Q.o;rw [b.o];simp [ak,dD] at this ⊢;omega) (by rw [b.o];exact L) (fun j W'=>by kernel_rfl)
   (fun S' j W' pv' qs Z U Y h=>by
    obtain⟨q,y,G,e2,e3⟩:=a.o.k j (by rw [← b.o];exact U);have ek:bM ⟨aj xs,its⟩ (ah ⟨aj xs,its⟩ f) i j=ah ⟨aj xs,its⟩ f q:=kW (by rw [aY its a.o.hx];omega) (by rw [aY its a.o.hx];exact G);rw [ek] at Y ⊢
    exact rk3 h HX.o a.o.hx (Z _ (adn _ _ _ _ _ _)) (Z _ (adl _ _ _ _ _ EB.o)) G (HF.o j q (by rw [← b.o];exact U) G) Y)).mono ?_
 rintro e w2⟨l8,rfl,P⟩;clear c4 t u C r D;obtain⟨c4,t,u,C,r⟩:=gZ P;go_wp2_with fail;go_end0
 exact⟨_,rfl,O (by have h:=P.o.rs;rw [b.o] at h;simpa [dD,tz] using h)⟩
theorem abe (H:Hid (PZ S B g w W (.slice A n c) iv pv ps))(X:CX w B A Bi n xs its)(K:KX w B g A n c iv xs its f i x)(R:6≤x.1.kind∧x.1.kind≤18)(h2:(b2,56,#[.pointer (some ⟨g,0,none⟩)]) ∈ S)(h3:(b3,3,#[.int .i64 (i:Nat)]) ∈ S)(hf:0 < f)(hm1:x.1.kids.length=2)(E:∀ j,j < x.1.kids.length→KE w B g A n c iv xs its f x j)
  (F:ps.length+(aW ⟨aj xs,its⟩ (ah ⟨aj xs,its⟩ f) i).length≤1000000) :
  Calls Tryz.prog 77 #[.pointer (some ⟨g,0,none⟩),.int .i64 i,.agg (j_ x),Dv b2 b3] W (kS S B g w (.slice A n c) iv (gH ps (aW ⟨aj xs,its⟩ (ah ⟨aj xs,its⟩ f) i))):=by
 have en:=yc (T:=⟨aj xs,its⟩) (B:=ah ⟨aj xs,its⟩ f) (i:=i) (by rw [aY its K.hx];exact .inr (.inl R))
 try rw [aY its K.hx] at en
 rw [en] at F ⊢
 obtain⟨N,kc,C,hkl,U⟩:=X.kids H.o K.hx;obtain⟨m,Y⟩:∃ m,m=x.1.kids.length:=⟨_,rfl⟩;obtain⟨kd,t⟩:∃ k,k=x.1.kind:=⟨_,rfl⟩;rw [← t] at R F ⊢
 have Q:j_ x=#[.int .u8 (kd:Nat),.string (aU x.1.text),.int .i64 x.1.n,.slice N m kc,.int .i64 x.1.at_]:=by unfold j_;rw [t,C,Y]
 have L:=rsH b2 b3 #[.int .u8 (kd:Nat),.string (aU x.1.text),.int .i64 x.1.n,.slice N m kc,.int .i64 x.1.at_] H;have EB:=O Q;have J:=O F;have HX:=O X;have HK:=O K;have K1:=O (K.ne hf 0 (.inr rfl));have HM:=O Y;have HE:=O E;obtain⟨c4,b,d,r,a⟩:=gZ L;rw [Q];unfold Dv;clear H C U F X K Q Y en E t;have z21:((kd:Int) == 21)=false:=by simp;omega
 have z22:((kd:Int) == 22)=false:=by simp;omega
 have z23:((kd:Int) == 23)=false:=by simp;omega
 have z24:((kd:Int) == 24)=false:=by simp;omega
 have z26:((kd:Int) == 26)=false:=by simp;omega
 go_in
 go_wp2_with fail;refine (Qh L HX.o HK.o (yA h2) (yA h3) (j:=0) (by omega) (HE.o 0 (by omega)) (by have:=J.o;simp [ak] at this;omega)).mono ?_;rintro e w1⟨vP,rfl,G⟩;clear c4 b d r a L;obtain⟨c4,b,d,r,a⟩:=gZ G;go_upto_region 3 with (fail)
 have HW:=O fun (W2:World) (D:Below w1.heap.size w1 W2)=>QO D
 have M:=O (show AZ kd=mQ kd by unfold AZ;rw [if_neg (by omega),if_pos R])
 go_region_held3 (fun w'=>w'.cell? ⟨W.heap.size,0,none⟩=some (.pointer (some ⟨g,0,none⟩))∧w'.cell? ⟨W.heap.size+1,0,none⟩=some (.int .u8 (kd:Nat))) (first | go_keep|(go_split_ands;refine⟨?_,?_⟩ <;> assumption))
  ((first
    | (go_at_call 76
       refine (HW.o _ (by (repeat (first|(with_reducible exact Below.refl _ _)|(with_reducible refine Below.drew ?_)));done)).mono ?_;rintro e wA⟨mm,cc,rfl,Xc,D⟩;have u:=O (G.o.below D);have V:=xB wA mm cc Xc kd;have P:=xB wA.drew mm cc Xc kd;clear c4 b d r a D;obtain⟨c4,b,d,r,a⟩:=gZ u)
    | (go_at_call 54
       refine (EO (S:=rS W.heap.size g b2 b3 #[.int .u8 (kd:Nat),.string (aU x.1.text),.int .i64 x.1.n,.slice N m kc,.int .i64 x.1.at_] S) (by first | exact u | exact O u.o.drew | exact O u.o.drew.drew | exact O (u.o.drewN _)) (AZ kd) (i:Int) K1.o (by have:=J.o;simp [ak] at this ⊢;omega)).mono ?_;rintro e w2⟨l8,rfl,I⟩;clear c4 b d r a V P;obtain⟨c4,b,d,r,a⟩:=gZ I)))
 all_goals
  clear u G HW;go_wp2_with fail;refine (Qh I HX.o HK.o (yA h2) (yA h3) (j:=1) (by omega) (HE.o 1 (by omega)) (by have:=J.o;rw [dR];simp [ak] at this ⊢;omega)).mono ?_;rintro e w3⟨sw,rfl,Z⟩;clear c4 b d r a I;obtain⟨c4,b,d,r,a⟩:=gZ Z;go_wp2_with fail;go_end0
  exact⟨_,rfl,O (by have h:=Z.o.rs;rw [M.o,qO ps _ _ (by simp)] at h;simpa [List.append_assoc] using h)⟩
end
end
