/-
  A part of the proof.
-/
import Derived.StillTailTactics
import Derived.Test.YtflnfhhgamldhaaGreatDoorS16
set_option linter.all false
set_option maxRecDepth 100000
set_option maxHeartbeats 4000000
set_option linter.all false
namespace Go.Proofs.YtflnfhhgamldhaaGreatDoor
section
open Go.RowKit Mist
attribute [local go_sem] ah aM aV au ak
section
variable {S:Sz} {B g:Nat} {w W:World} {nv iv pv:Value} {ps l:List Pz}
def l7 (S:Sz)(B g:Nat)(w:World)(nv iv:Value)(ps:List Pz)(e:Ending)(W':World):Prop:=∃ pv',e=.returned (.tuple #[])∧Hid (PZ S B g w W' nv iv pv' ps)
theorem pzE {e:Ending}{k:World}(h:e=.returned (.tuple #[])∧∃ d,PZ S B g w k nv iv d ps):l7 S B g w nv iv ps e k:=by
 obtain⟨a,d,b⟩:=h;exact⟨d,a,O b⟩
theorem zC (H:Hid (PZ S B g w W nv iv pv ps))(t:Bs)(n:Int)(a:ps.length≤1000000) :
  Calls Tryz.prog 52 #[.pointer (some ⟨g,0,none⟩),.string (aH t),.int .i64 n] W (l7 S B g w nv iv (iG ps [tz t n])) :=
 (adV H.o t n a).mono fun _ _ h=>pzE h
theorem Gf (H:Hid (PZ S B g w W nv iv pv (iG ps l)))(t:Bs)(n:Int)(a:l ≠ [])(b:ps.length+l.length≤1000000) :
  Calls Tryz.prog 52 #[.pointer (some ⟨g,0,none⟩),.string (aH t),.int .i64 n] W (l7 S B g w nv iv (iG ps (l ++ [lz t n]))) :=
 (adV H.o t n (by rw [eU];exact b)).mono fun _ _ h=>pzE (by rw [acE,sD ps l _ a] at h;exact h)
theorem vR (H:Hid (PZ S B g w W nv iv pv (iG ps l)))(t:Bs)(n:Int)(a:l ≠ [])(b:ps.length+l.length≤1000000) :
  Calls Tryz.prog 53 #[.pointer (some ⟨g,0,none⟩),.string (aH t),.int .i64 n] W (l7 S B g w nv iv (iG ps (l ++ [tz t n]))) :=
 (YZ H.o t n (by rw [eU];exact b)).mono fun _ _ h=>pzE (by rw [vC ps a];exact h)
theorem in2 (H:Hid (PZ S B g w W nv iv pv (iG ps l)))(k:Nat)(d:Array Value)(r:List Pz)(v:l ≠ [])(C:ps.length+l.length≤1000000)(t:∀ e,Sem.run Tryz.prog (callFunc k d) e=.ok (.enter k d) e)
  (u:∀ e m,Hid (PZ S B g w e nv iv m (iG ps l))→Calls Tryz.prog k d e (l7 S B g w nv iv (iG (iG ps l) r))) :
  Calls Tryz.prog 95 #[.pointer (some ⟨g,0,none⟩),.func (.func k) #[] d] W (l7 S B g w nv iv (iG ps (l ++ dI false r))) :=
 (Zy H.o k d r (by rw [eU];exact C) t (fun e m h _=>(u e m (O h)).mono fun _ _ h=>by
  obtain⟨D,a,b⟩:=h;exact⟨a,D,b.o⟩)).mono fun _ _ h=>pzE (by rw [vC ps v];exact h)
end
structure CX (w:World) (B:Nat) (A Bi:Option Addr) (n:Nat) (xs:List NV) (its:List Int):Prop where
 t:rQ w A Bi xs its
 len:xs.length=n
 b:w.heap.size≤B
 few:n≤100000
 pow:Pow w
 env:Env w
theorem CX.at_ {w W:World}{B g n:Nat}{A Bi:Option Addr}{xs:List NV}{its:List Int}{S:Sz}{nv iv pv:Value}{ps:List Pz}(X:CX w B A Bi n xs its)(h:PZ S B g w W nv iv pv ps):rQ W A Bi xs its:=X.t.below (h.Ki.mono X.b)
def XC (w:World)(B g:Nat)(A:Option Addr)(n c:Nat)(iv:Value)(T:Tr)(f i:Nat):Prop :=
 ∀ (S:Sz) (W:World) (pv:Value) (ps:List Pz),Hid (PZ S B g w W (.slice A n c) iv pv ps)→ps.length+(aQ T f i).length≤1000000 →
  Calls Tryz.prog 101 #[.pointer (some ⟨g,0,none⟩),.int .i64 i] W (l7 S B g w (.slice A n c) iv (iG ps (aQ T f i)))
section
variable {S:Sz} {B g n c f i j q:Nat} {w W:World} {A Bi:Option Addr} {iv pv:Value} {ps l:List Pz} {xs:List NV} {its:List Int} {x y:NV}
theorem ae_ (H:Hid (PZ S B g w W (.slice A n c) iv pv ps)){b3 b6:Nat}(h3:(b3,58,#[.pointer (some ⟨g,0,none⟩)]) ∈ S)(h6:(b6,3,#[.int .i64 (q:Nat)]) ∈ S){T:Tr}(d:XC w B g A n c iv T f q)(k:ps.length+(aQ T f q).length≤1000000) :
  Calls Tryz.prog 102 #[.pointer (some ⟨b3,0,none⟩),.pointer (some ⟨b6,0,none⟩)] W (l7 S B g w (.slice A n c) iv (iG ps (aQ T f q))):=by
 have c3:=(H.o.kp _ h3).1.cell 0;have b:=(H.o.kp _ h6).1.cell 0;simp only at c3 b
 go_in
 go_wp2_with fail;refine (d S W pv ps H k).mono ?_;rintro e r⟨m,rfl,a⟩;go_wp2_with fail;go_end0
 exact⟨m,rfl,a⟩
theorem agK (H:Hid (PZ S B g w W (.slice A n c) iv pv ps))(X:CX w B A Bi n xs its)(k:xs[i]? = some x)(C:x.1.kids[j]? = some (q:Int))(hy:xs[q]? = some y)(hX:XC w B g A n c iv ⟨aF xs,its⟩ f q)
  (G:ps.length+(eO ⟨aF xs,its⟩ (aQ ⟨aF xs,its⟩ f) i j).length≤1000000) :
  Calls Tryz.prog 59 #[.pointer (some ⟨g,0,none⟩),.int .i64 i,.int .i64 j] W (l7 S B g w (.slice A n c) iv (iG ps (eO ⟨aF xs,its⟩ (aQ ⟨aF xs,its⟩ f) i j))):=by
 have hi:i < n:=by rw [← X.len];exact (akV.1 k).1
 have D:j < x.1.kids.length:=(akV.1 C).1;have hT:=X.at_ H.o;obtain⟨b,o,hA,P⟩:=hT.nodes (by have:=X.len;omega);have k3:=P.c3 i x k;obtain⟨Ka,kc,J,hkl,F⟩:=P.kid k;obtain⟨kb,ko,Y,hkb,E⟩:=F.ex (by omega);have kq:=E j _ C;rw [J] at k3
 subst Y;obtain⟨nk,I⟩:∃ m,m=x.1.kids.length:=⟨_,rfl⟩;rw [← I] at k3 D
 have c0:=H.o.blk.cell 0;have V:b < W.heap.size:=P.lt;have y0:(0:Int)≤(i:Int):=by omega
 have y1:(i:Int) < (n:Int):=by omega
 have y2:(0:Int)≤(j:Int):=by omega
 have y3:(j:Int) < (nk:Int):=by omega
 have hg:=H.o.blk.lt
 have hne:aQ ⟨aF xs,its⟩ f q ≠ []∨f≤q:=by
  rcases Nat.lt_or_ge q f with h | h
  ·exact .inl (KZ _ h)
  ·exact .inr h
 have e1:((nd (⟨aF xs,its⟩:Tr) i).kids.getD j 0).toNat=q:=by rw [bI its k,akY,C];rfl
 have ek:eO ⟨aF xs,its⟩ (aQ ⟨aF xs,its⟩ f) i j=if xV x.1.kind j y.1.kind then aQ ⟨aF xs,its⟩ f q else tz [40] (-1) :: (dI false (aQ ⟨aF xs,its⟩ f q) ++ [tz [41] (-1)]):=by
  unfold eO;simp only
  rw [e1,bI its k,bI its hy]
 rw [ek] at G ⊢
 have u:=O hX;have HS:=O (H.o.box (T:=58) (cs:=#[.pointer (some ⟨g,0,none⟩)]) (by decide));have v:(W.alloc (.cells #[.pointer (some ⟨g,0,none⟩)] 58)).heap.size=W.heap.size+1:=by simp
 have d:=O (HS.o.box (T:=3) (cs:=#[.int .i64 (q:Nat)]) (by decide));rw [v] at d
 have R:=O (aeB d.o (X.at_ d.o) X.len k C hy);subst hA
 generalize xV x.1.kind j y.1.kind=br at G R ⊢
 obtain⟨M,Z⟩:∃ M,M=if br then aQ ⟨aF xs,its⟩ f q else tz [40] (-1) :: (dI false (aQ ⟨aF xs,its⟩ f q) ++ [tz [41] (-1)]):=⟨_,rfl⟩
 rw [← Z] at G ⊢
 have L:=O G;have N:=O Z;clear G Z hT P k C hy hX X hkl F E hne e1 ek I J;go_in
 go_wp2_with fail;refine R.o.mono ?_;rintro e w3⟨rfl,hb⟩;have r:=O (d.o.below hb);clear hb R HS d c0 k3 kq H v y0 y1 y2 y3 V hkb hg hi D;have c3:=(r.o.kp _ (List.mem_cons_of_mem _ (List.mem_cons_self ..))).1.cell 0;have U:=(r.o.kp _ (List.mem_cons_self ..)).1.cell 0;simp only at c3 U
 cases br
 ·have K:=O (show M=tz [40] (-1) :: (dI false (aQ ⟨aF xs,its⟩ f q) ++ [tz [41] (-1)]) from N.o);have a:=O (show ps.length+(aQ ⟨aF xs,its⟩ f q).length+2≤1000000 by have:=L.o;rw [K.o] at this;simp [aj] at this;omega);clear N L;go_wp2_with fail;refine (zC r [40] (-1) (by have:=a.o;omega)).mono ?_;rintro e w4⟨Cw,rfl,t⟩;clear c3 U r;have c3:=(t.o.kp _ (List.mem_cons_of_mem _ (List.mem_cons_self ..))).1.cell 0;simp only at c3
  go_wp2_with fail
  refine (in2 t 102 #[.pointer (some ⟨W.heap.size,0,none⟩),.pointer (some ⟨W.heap.size+1,0,none⟩)] (aQ ⟨aF xs,its⟩ f q) (by simp) (by have:=a.o;simp;omega) (fun W'=>by kernel_rfl)
   (fun W' pv' H'=>ae_ H' (List.mem_cons_of_mem _ (List.mem_cons_self ..)) (List.mem_cons_self ..) u.o (by have:=a.o;rw [eU];simp;omega))).mono ?_
  rintro e w5⟨pv5,rfl,Q⟩;clear c3 t;have c3:=(Q.o.kp _ (List.mem_cons_of_mem _ (List.mem_cons_self ..))).1.cell 0;simp only at c3
  go_wp2_with fail;refine (vR Q [41] (-1) (by simp) (by have:=a.o;simp [aj];omega)).mono ?_;rintro e w6⟨pv6,rfl,H6⟩;clear c3 Q;go_wp2_with fail;go_end0
  exact⟨pv6,rfl,O (by rw [K.o];exact H6.o.tl.tl)⟩
 ·have K:=O (show M=aQ ⟨aF xs,its⟩ f q from N.o);have a:=O (show ps.length+(aQ ⟨aF xs,its⟩ f q).length≤1000000 by have:=L.o;rwa [K.o] at this);clear N L;go_wp2_with fail;refine (u.o _ _ _ _ r a.o).mono ?_;rintro e w4⟨Cw,rfl,t⟩;clear c3 U r;go_wp2_with fail;go_end0
  exact⟨Cw,rfl,O (by rw [K.o];exact t.o.tl.tl)⟩
end
end
set_option linter.all false
end Go.Proofs.YtflnfhhgamldhaaGreatDoor
namespace Mist
theorem Qc (L:Nat→List Pz){m:Nat}:∀ n,m≤n→(gP L m).length≤(gP L n).length:=by
 intro n h
 induction h with
 | refl=>exact ak0 _
 | step _ a =>
  rename_i k _
  refine Nat.le_trans a ?_;rw [gP];split
  ·rename_i h0;subst h0;simp [gP]
  ·simp
end Mist
namespace Go.Proofs.YtflnfhhgamldhaaGreatDoor
section
open Go.RowKit Mist
attribute [local go_sem] ah aM aV au ak
section
variable {S:Sz} {B g n c f i j q:Nat} {w W:World} {A Bi:Option Addr} {nv iv pv:Value} {ps l:List Pz} {xs:List NV} {its:List Int} {x y:NV}
theorem ls1 (H:Hid (PZ S B g w W nv iv pv ps))(k:Nat)(d:Array Value)(L:Nat→List Pz)(many:Nat)(h0:L 0 ≠ [])(u:many≤1000000)(E:ps.length+(gP L many).length < 1000000)
  (v:∀ (j:Nat) e,Sem.run Tryz.prog (callFunc k (#[.int .i64 (j:Nat)] ++ d)) e=.ok (.enter k (#[.int .i64 (j:Nat)] ++ d)) e)
  (C:∀ (j:Nat) e r t,j < many→t.length+(L j).length≤1000000→Hid (PZ S B g w e nv iv r t)→Calls Tryz.prog k (#[.int .i64 (j:Nat)] ++ d) e (l7 S B g w nv iv (iG t (L j)))) :
  Calls Tryz.prog 61 #[.pointer (some ⟨g,0,none⟩),.int .i64 (many:Nat),.func (.func k) #[] d] W (l7 S B g w nv iv (iG ps (gP L many))) :=
 (afa H.o k d L many h0 u (fun m u=>by have:=Qc L many u;omega) v (fun j e r t h1 h2 h3=>(C j e r t h1 h2 (O h3)).mono fun _ _ h=>by
  obtain⟨D,a,b⟩:=h;exact⟨a,D,b.o⟩)).mono fun _ _ h=>pzE h
structure KX (w:World) (B g:Nat) (A:Option Addr) (n c:Nat) (iv:Value) (xs:List NV) (its:List Int) (f i:Nat) (x:NV):Prop where
 hx:xs[i]? = some x
 k:∀ j,j < x.1.kids.length→∃ q y,x.1.kids[j]? = some ((q:Nat):Int)∧xs[q]? = some y∧q < f
theorem KX.ne {f:Nat}(K:KX w B g A n c iv xs its f i x)(a:0 < f)(j:Nat)(m:j < x.1.kids.length∨j=0):eO ⟨aF xs,its⟩ (aQ ⟨aF xs,its⟩ f) i j ≠ []:=by
 refine aco (KZ _ ?_);rw [bI its K.hx];by_cases b:j < x.1.kids.length
 ·obtain⟨q,y,e,_,d⟩:=K.k j b;rw [akY,e];exact d
 ·rw [akY,List.getElem?_eq_none (by omega)];exact a
def KE (w:World)(B g:Nat)(A:Option Addr)(n c:Nat)(iv:Value)(xs:List NV)(its:List Int)(f:Nat)(x:NV)(j:Nat):Prop:=∀ q,x.1.kids[j]? = some ((q:Nat):Int)→XC w B g A n c iv ⟨aF xs,its⟩ f q
theorem kd1 (H:Hid (PZ S B g w W (.slice A n c) iv pv ps))(X:CX w B A Bi n xs its)(K:KX w B g A n c iv xs its f i x)(d:j < x.1.kids.length)(E:KE w B g A n c iv xs its f x j)
  (e:ps.length+(eO ⟨aF xs,its⟩ (aQ ⟨aF xs,its⟩ f) i j).length≤1000000) :
  Calls Tryz.prog 59 #[.pointer (some ⟨g,0,none⟩),.int .i64 i,.int .i64 j] W (l7 S B g w (.slice A n c) iv (iG ps (eO ⟨aF xs,its⟩ (aQ ⟨aF xs,its⟩ f) i j))):=by
 obtain⟨q,y,a,b,m⟩:=K.k j d;exact agK H X K.hx a b (E q a) e
theorem R_ (H:Hid (PZ S B g w W (.slice A n c) iv pv ps))(X:CX w B A Bi n xs its)(K:KX w B g A n c iv xs its f i x){b2 b3:Nat}(h2:(b2,58,#[.pointer (some ⟨g,0,none⟩)]) ∈ S)(h3:(b3,3,#[.int .i64 (i:Nat)]) ∈ S)
  (k:j < x.1.kids.length) (E:KE w B g A n c iv xs its f x j) (a:ps.length+(eO ⟨aF xs,its⟩ (aQ ⟨aF xs,its⟩ f) i j).length≤1000000) :
  Calls Tryz.prog 140 #[.int .i64 j,.pointer (some ⟨b2,0,none⟩),.pointer (some ⟨b3,0,none⟩)] W (l7 S B g w (.slice A n c) iv (iG ps (eO ⟨aF xs,its⟩ (aQ ⟨aF xs,its⟩ f) i j))):=by
 have c2:=(H.o.kp _ h2).1.cell 0;have c3:=(H.o.kp _ h3).1.cell 0;simp only at c2 c3
 have b:=O (kd1 H X K k E a);clear a E K X;go_in
 go_wp2_with fail;refine b.o.mono ?_;rintro e r⟨m,rfl,d⟩;go_wp2_with fail;go_end0
 exact⟨m,rfl,d⟩
end
end
set_option linter.all false
end Go.Proofs.YtflnfhhgamldhaaGreatDoor
namespace Mist
theorem KY {k:Nat}(h:¬ (4≤k∧k≤18)∧k ≠ 22∧k ≠ 23)(j q:Nat):xV k j q=true:=by
 unfold xV;rw [if_neg (by omega),if_neg (by omega),if_neg (by omega),if_neg (by omega)]
theorem mh {T:Tr}{B:Nat→List Pz}{i j q:Nat}(h:¬ (4≤(nd T i).kind∧(nd T i).kind≤18)∧(nd T i).kind ≠ 22∧(nd T i).kind ≠ 23)(e:(nd T i).kids[j]? = some ((q:Nat):Int)):eO T B i j=B q:=by
 unfold eO;simp only
 rw [KY h,if_pos rfl,akY,e];rfl
end Mist
namespace Go.Proofs.YtflnfhhgamldhaaGreatDoor
section
open Go.RowKit Mist
attribute [local go_sem] ah aM aV au ak
def lg (x:NV):Array Value:=#[.int .u8 (x.1.kind:Nat),.string (aH x.1.text),.int .i64 x.1.n,x.2,.int .i64 x.1.at_]
def D8 (b2 b3:Nat):Value:=.func (.func 140) #[] #[.pointer (some ⟨b2,0,none⟩),.pointer (some ⟨b3,0,none⟩)]
section
variable {S:Sz} {B g n c f i j q b2 b3 b4 b6 b7:Nat} {w W:World} {A Bi:Option Addr} {nv iv pv:Value} {ps l:List Pz} {xs:List NV} {its:List Int} {x y:NV}
theorem CX.kids (X:CX w B A Bi n xs its)(h:PZ S B g w W nv iv pv ps)(a:xs[i]? = some x):∃ K kc,x.2=.slice K x.1.kids.length kc∧x.1.kids.length≤1000000∧IntsIn W K x.1.kids:=by
 have e:=X.at_ h;have hi:=(akV.1 a).1;obtain⟨b,o,k,d⟩:=e.nodes (by omega);exact d.kid a
theorem rl1 (H:Hid (PZ S B g w W (.slice A n c) iv pv ps))(X:CX w B A Bi n xs its)(K:KX w B g A n c iv xs its f i x)(h4:(b4,58,#[.pointer (some ⟨g,0,none⟩)]) ∈ S)(h6:(b6,50,lg x) ∈ S)(h7:(b7,57,#[D8 b2 b3]) ∈ S)
  (h2:(b2,58,#[.pointer (some ⟨g,0,none⟩)]) ∈ S) (h3:(b3,3,#[.int .i64 (i:Nat)]) ∈ S) (F:0 < f) (E:∀ j,j < x.1.kids.length→KE w B g A n c iv xs its f x j)
  (r:ps.length+(ig ⟨aF xs,its⟩ (aQ ⟨aF xs,its⟩ f) i x.1.kids.length).length < 1000000) :
  Calls Tryz.prog 174 #[.pointer (some ⟨b4,0,none⟩),.pointer (some ⟨b6,0,none⟩),.pointer (some ⟨b7,0,none⟩)] W (l7 S B g w (.slice A n c) iv (iG ps (ig ⟨aF xs,its⟩ (aQ ⟨aF xs,its⟩ f) i x.1.kids.length))):=by
 have c4:=(H.o.kp _ h4).1.cell 0;have D:=(H.o.kp _ h7).1.cell 0;obtain⟨L,kc,b,a,d⟩:=X.kids H.o K.hx;have C:W.cell? ⟨b6,3,none⟩=some x.2:=(H.o.kp _ h6).1.cell 3;rw [b] at C
 simp only [D8] at c4 D
 have t:=O (ls1 H 140 #[.pointer (some ⟨b2,0,none⟩),.pointer (some ⟨b3,0,none⟩)] (eO ⟨aF xs,its⟩ (aQ ⟨aF xs,its⟩ f) i) x.1.kids.length (K.ne F 0 (.inr rfl)) a r (fun j v=>by kernel_rfl)
  (fun j v J M k G h=>R_ h X K h2 h3 k (E j k) G))
 generalize x.1.kids.length=m at *
 clear r E K X d b a;go_in
 go_wp2_with fail;refine t.o.mono ?_;rintro e N⟨I,rfl,u⟩;go_wp2_with fail;go_end0
 exact⟨I,rfl,u⟩
theorem rl4 (H:Hid (PZ S B g w W (.slice A n c) iv pv ps))(X:CX w B A Bi n xs its)(K:KX w B g A n c iv xs its f i x)(h4:(b4,58,#[.pointer (some ⟨g,0,none⟩)]) ∈ S)(h6:(b6,50,lg x) ∈ S)(h7:(b7,57,#[D8 b2 b3]) ∈ S)
  (h2:(b2,58,#[.pointer (some ⟨g,0,none⟩)]) ∈ S) (h3:(b3,3,#[.int .i64 (i:Nat)]) ∈ S) (F:0 < f) (E:∀ j,j < x.1.kids.length→KE w B g A n c iv xs its f x j)
  (r:ps.length+(ig ⟨aF xs,its⟩ (aQ ⟨aF xs,its⟩ f) i x.1.kids.length).length < 1000000) :
  Calls Tryz.prog 178 #[.pointer (some ⟨b4,0,none⟩),.pointer (some ⟨b6,0,none⟩),.pointer (some ⟨b7,0,none⟩)] W (l7 S B g w (.slice A n c) iv (iG ps (ig ⟨aF xs,its⟩ (aQ ⟨aF xs,its⟩ f) i x.1.kids.length))):=by
 have c4:=(H.o.kp _ h4).1.cell 0;have D:=(H.o.kp _ h7).1.cell 0;obtain⟨L,kc,b,a,d⟩:=X.kids H.o K.hx;have C:W.cell? ⟨b6,3,none⟩=some x.2:=(H.o.kp _ h6).1.cell 3;rw [b] at C
 simp only [D8] at c4 D
 have t:=O (ls1 H 140 #[.pointer (some ⟨b2,0,none⟩),.pointer (some ⟨b3,0,none⟩)] (eO ⟨aF xs,its⟩ (aQ ⟨aF xs,its⟩ f) i) x.1.kids.length (K.ne F 0 (.inr rfl)) a r (fun j v=>by kernel_rfl)
  (fun j v J M k G h=>R_ h X K h2 h3 k (E j k) G))
 generalize x.1.kids.length=m at *
 clear r E K X d b a;go_in
 go_wp2_with fail;refine t.o.mono ?_;rintro e N⟨I,rfl,u⟩;go_wp2_with fail;go_end0
 exact⟨I,rfl,u⟩
theorem rk2 (H:Hid (PZ S B g w W (.slice A n c) iv pv ps))(X:CX w B A Bi n xs its)(K:KX w B g A n c iv xs its f i x)(h7:(b7,57,#[D8 b2 b3]) ∈ S)
  (h2:(b2,58,#[.pointer (some ⟨g,0,none⟩)]) ∈ S) (h3:(b3,3,#[.int .i64 (i:Nat)]) ∈ S) (m:1 < x.1.kids.length) (E:KE w B g A n c iv xs its f x 1)
  (a:ps.length+(eO ⟨aF xs,its⟩ (aQ ⟨aF xs,its⟩ f) i 1).length≤1000000) :
  Calls Tryz.prog 175 #[.pointer (some ⟨b7,0,none⟩)] W (l7 S B g w (.slice A n c) iv (iG ps (eO ⟨aF xs,its⟩ (aQ ⟨aF xs,its⟩ f) i 1))):=by
 have k:=(H.o.kp _ h7).1.cell 0;simp only [D8] at k
 have b:=O (R_ H X K h2 h3 m E a);clear a E K X;go_in
 go_wp2_with fail;refine b.o.mono ?_;rintro e t⟨r,rfl,d⟩;go_wp2_with fail;go_end0
 exact⟨r,rfl,d⟩
theorem ab1 (H:Hid (PZ S B g w W (.slice A n c) iv pv ps))(X:CX w B A Bi n xs its)(K:KX w B g A n c iv xs its f i x)(L:x.1.kind=25)(J:0 < x.1.kids.length)(E:KE w B g A n c iv xs its f x 0)
  (d:ps.length+(cZ ⟨aF xs,its⟩ (aQ ⟨aF xs,its⟩ f) i).length≤1000000) :
  Calls Tryz.prog 177 #[.pointer (some ⟨g,0,none⟩),.int .i64 i] W (l7 S B g w (.slice A n c) iv (iG ps (cZ ⟨aF xs,its⟩ (aQ ⟨aF xs,its⟩ f) i))):=by
 have en:=Es (T:=⟨aF xs,its⟩) (B:=aQ ⟨aF xs,its⟩ f) (i:=i) (by rw [bI its K.hx];exact L);rw [bI its K.hx] at en
 rw [en] at d ⊢
 have hi:i < n:=by rw [← X.len];exact (akV.1 K.hx).1
 obtain⟨b,o,I,m⟩:=(X.at_ H.o).nodes (by have:=X.len;omega);have M:=m.c1 i x K.hx;subst I;have G:=H.o.blk.cell 0;have V:(0:Int)≤(i:Int):=by omega
 have Y:(i:Int) < (n:Int):=by omega
 have a:=O d;have F:=O X;have D:=O K;have C:=O E;clear d m X K E en
 generalize x.1.text=t at *
 go_in
 go_wp2_with fail;refine (zC H t i (by have:=a.o;simp [aj] at this;omega)).mono ?_;rintro e Q⟨N,rfl,k⟩;clear G M;go_wp2_with fail;refine (vR k [58] (-1) (by simp) (by have:=a.o;simp [aj] at this ⊢;omega)).mono ?_;rintro e R⟨P,rfl,u⟩;clear k;go_wp2_with fail;refine (kd1 u F.o D.o (j:=0) J C.o (by have:=a.o;rw [eU];simp [aj] at this ⊢;omega)).mono ?_;rintro e U⟨r,rfl,v⟩;go_wp2_with fail;go_end0
 exact⟨r,rfl,O (by have h:=v.o;rw [sD ps _ _ (by simp)] at h;exact h)⟩
end
end
set_option linter.all false
section
open Go.RowKit Mist
attribute [local go_sem] ah aM aV au ak
def MC (fn:Nat)(w:World)(B g:Nat)(A:Option Addr)(n c:Nat)(iv:Value)(T:Tr)(f i:Nat):Prop :=
 ∀ (S:Sz) (W:World) (pv:Value) (ps:List Pz),Hid (PZ S B g w W (.slice A n c) iv pv ps)→ps.length+(aQ T f i).length≤1000000 →
  Calls Tryz.prog fn #[.pointer (some ⟨g,0,none⟩),.int .i64 i] W (l7 S B g w (.slice A n c) iv (iG ps (aQ T f i)))
section
variable {S:Sz} {B g n c f i j q b2 b3 b4 b5 b6 b7:Nat} {w W:World} {A Bi:Option Addr} {nv iv pv:Value} {ps l:List Pz} {xs:List NV} {its:List Int} {x y:NV}
theorem rk3 (H:Hid (PZ S B g w W (.slice A n c) iv pv ps))(X:CX w B A Bi n xs its)(D:xs[i]? = some x)(h4:(b4,58,#[.pointer (some ⟨g,0,none⟩)]) ∈ S)(h6:(b6,50,lg x) ∈ S)
  (t:x.1.kids[j]? = some ((q:Nat):Int)) (F:MC 177 w B g A n c iv ⟨aF xs,its⟩ f q) (C:ps.length+(aQ ⟨aF xs,its⟩ f q).length≤1000000) :
  Calls Tryz.prog 176 #[.int .i64 j,.pointer (some ⟨b4,0,none⟩),.pointer (some ⟨b6,0,none⟩)] W (l7 S B g w (.slice A n c) iv (iG ps (aQ ⟨aF xs,its⟩ f q))):=by
 have c4:=(H.o.kp _ h4).1.cell 0;obtain⟨M,kc,k,r,d⟩:=X.kids H.o D;have J:j < x.1.kids.length:=(akV.1 t).1;have v:W.cell? ⟨b6,3,none⟩=some x.2:=(H.o.kp _ h6).1.cell 3;obtain⟨kb,N,a,K,b⟩:=d.ex (by omega);have kq:=b j _ t;rw [k,a] at v
 simp only at c4
 have Q:(0:Int)≤(j:Int):=by omega
 generalize x.1.kids.length=m at *
 have R:(j:Int) < (m:Int):=by omega
 have E:=O F;have G:=O C;clear C F X d k r b D t a;go_in
 go_still_tail 6,(by kernel_rfl)
 change wpList _ _ _ _ _ W.drew
 have u:=O H.o.drew
 generalize W.drew=w1 at u ⊢
 clear H c4 v kq;go_wp2_with fail;refine (E.o S _ pv ps u G.o).mono ?_;rintro e P⟨L,rfl,I⟩;go_wp2_with fail;go_end0
 exact⟨L,rfl,I⟩
theorem br1 (H:Hid (PZ S B g w W nv iv pv ps))(k:Nat)(a:Array Value)(L:Nat→List Pz)(many:Nat)(h4:(b4,58,#[.pointer (some ⟨g,0,none⟩)]) ∈ S)(h5:(b5,3,#[.int .i64 (many:Nat)]) ∈ S)(h7:(b7,57,#[.func (.func k) #[] a]) ∈ S)
  (h0:L 0 ≠ []) (v:many≤1000000) (b:ps.length+(gP L many).length < 1000000)
  (d:∀ (j:Nat) W',Sem.run Tryz.prog (callFunc k (#[.int .i64 (j:Nat)] ++ a)) W'=.ok (.enter k (#[.int .i64 (j:Nat)] ++ a)) W')
  (m:∀ (j:Nat) W' pv' qs,j < many→qs.length+(L j).length≤1000000→Hid (PZ S B g w W' nv iv pv' qs)→Calls Tryz.prog k (#[.int .i64 (j:Nat)] ++ a) W' (l7 S B g w nv iv (iG qs (L j)))) :
  Calls Tryz.prog 96 #[.pointer (some ⟨b4,0,none⟩),.pointer (some ⟨b5,0,none⟩),.pointer (some ⟨b7,0,none⟩)] W (l7 S B g w nv iv (iG ps (gP L many))):=by
 have c4:=(H.o.kp _ h4).1.cell 0;have c5:=(H.o.kp _ h5).1.cell 0;have u:=(H.o.kp _ h7).1.cell 0;simp only at c4 c5 u
 have r:=O (ls1 H k a L many h0 v b d m);clear m d b;go_in
 go_wp2_with fail;refine r.o.mono ?_;rintro e D⟨C,rfl,t⟩;go_wp2_with fail;go_end0
 exact⟨C,rfl,t⟩
theorem K4 (b:Bool)(H:Hid (PZ S B g w W nv iv pv (iG ps l)))(R:l ≠ [])(k:Nat)(a:Array Value)(L:Nat→List Pz)(many:Nat)(h0:L 0 ≠ [])(P:ps.length+l.length+(gP L many).length+2≤1000000)(U:many≤1000000)
  (D:∀ (j:Nat) m,Sem.run Tryz.prog (callFunc k (#[.int .i64 (j:Nat)] ++ a)) m=.ok (.enter k (#[.int .i64 (j:Nat)] ++ a)) m)
  (Q:∀ (K:Sz) (j:Nat) m d v,(∀ e ∈ S,e ∈ K)→j < many→v.length+(L j).length≤1000000→Hid (PZ K B g w m nv iv d v)→Calls Tryz.prog k (#[.int .i64 (j:Nat)] ++ a) m (l7 K B g w nv iv (iG v (L j)))) :
  Calls Tryz.prog 55 #[.pointer (some ⟨g,0,none⟩),.int .i64 (many:Nat),.bool b,.func (.func k) #[] a] W (l7 S B g w nv iv (iG ps (l ++ ⟨[123],!(b),-1⟩ :: (dI false (gP L many) ++ [tz [125] (-1)])))):=by
 have V:(W.alloc (.cells #[.pointer (some ⟨g,0,none⟩)] 58)).heap.size=W.heap.size+1:=by simp
 have X:((W.alloc (.cells #[.pointer (some ⟨g,0,none⟩)] 58)).alloc (.cells #[.int .i64 (many:Nat)] 3)).heap.size=W.heap.size+2:=by simp
 have E:=O (H.o.box (T:=58) (cs:=#[.pointer (some ⟨g,0,none⟩)]) (by decide));have F:=O (E.o.box (T:=3) (cs:=#[.int .i64 (many:Nat)]) (by decide));have C:=O (F.o.box (T:=57) (cs:=#[.func (.func k) #[] a]) (by decide));rw [V,X] at C
 have M:=O D;have N:=O Q;have r:=O P;clear E F H Q D P;have c4:=(C.o.kp _ (List.mem_cons_of_mem _ (List.mem_cons_of_mem _ (List.mem_cons_self ..)))).1.cell 0;simp only at c4
 cases b
 ·go_in
  go_wp2_with fail;refine (Gf C [123] (-1) R (by have:=r.o;omega)).mono ?_;rintro e w2⟨Y,rfl,t⟩;clear c4 C;have c4:=(t.o.kp _ (List.mem_cons_of_mem _ (List.mem_cons_of_mem _ (List.mem_cons_self ..)))).1.cell 0;simp only at c4
  go_wp2_with fail
  refine (in2 t 96 #[.pointer (some ⟨W.heap.size,0,none⟩),.pointer (some ⟨W.heap.size+1,0,none⟩),.pointer (some ⟨W.heap.size+2,0,none⟩)] (gP L many) (by simp) (by have:=r.o;simp;omega) (fun m=>by kernel_rfl)
   (fun m d I=>br1 I k a L many (List.mem_cons_of_mem _ (List.mem_cons_of_mem _ (List.mem_cons_self ..))) (List.mem_cons_of_mem _ (List.mem_cons_self ..)) (List.mem_cons_self ..) h0 U (by have:=r.o;rw [eU];simp;omega) M.o
    (fun j m d v h1 h2 h3=>N.o _ j m d v (fun e D=>List.mem_cons_of_mem _ (List.mem_cons_of_mem _ (List.mem_cons_of_mem _ D))) h1 h2 h3))).mono ?_
  rintro e w3⟨Z,rfl,u⟩;clear c4 t;have c4:=(u.o.kp _ (List.mem_cons_of_mem _ (List.mem_cons_of_mem _ (List.mem_cons_self ..)))).1.cell 0;simp only at c4
  go_wp2_with fail;refine (vR u [125] (-1) (by simp) (by have:=r.o;simp [aj];omega)).mono ?_;rintro e w4⟨G,rfl,J⟩;clear c4 u;go_wp2_with fail;go_end0
  exact⟨G,rfl,O (by have h:=J.o.tl.tl.tl;simp only [List.append_assoc,List.cons_append,List.nil_append] at h;exact h)⟩
 ·go_in
  go_wp2_with fail;refine (vR C [123] (-1) R (by have:=r.o;omega)).mono ?_;rintro e w2⟨Y,rfl,t⟩;clear c4 C;have c4:=(t.o.kp _ (List.mem_cons_of_mem _ (List.mem_cons_of_mem _ (List.mem_cons_self ..)))).1.cell 0;simp only at c4
  go_wp2_with fail
  refine (in2 t 96 #[.pointer (some ⟨W.heap.size,0,none⟩),.pointer (some ⟨W.heap.size+1,0,none⟩),.pointer (some ⟨W.heap.size+2,0,none⟩)] (gP L many) (by simp) (by have:=r.o;simp;omega) (fun m=>by kernel_rfl)
   (fun m d I=>br1 I k a L many (List.mem_cons_of_mem _ (List.mem_cons_of_mem _ (List.mem_cons_self ..))) (List.mem_cons_of_mem _ (List.mem_cons_self ..)) (List.mem_cons_self ..) h0 U (by have:=r.o;rw [eU];simp;omega) M.o
    (fun j m d v h1 h2 h3=>N.o _ j m d v (fun e D=>List.mem_cons_of_mem _ (List.mem_cons_of_mem _ (List.mem_cons_of_mem _ D))) h1 h2 h3))).mono ?_
  rintro e w3⟨Z,rfl,u⟩;clear c4 t;have c4:=(u.o.kp _ (List.mem_cons_of_mem _ (List.mem_cons_of_mem _ (List.mem_cons_self ..)))).1.cell 0;simp only at c4
  go_wp2_with fail;refine (vR u [125] (-1) (by simp) (by have:=r.o;simp [aj];omega)).mono ?_;rintro e w4⟨G,rfl,J⟩;clear c4 u;go_wp2_with fail;go_end0
  exact⟨G,rfl,O (by have h:=J.o.tl.tl.tl;simp only [List.append_assoc,List.cons_append,List.nil_append] at h;exact h)⟩
end
end
set_option linter.all false
section
open Go.RowKit Mist
theorem mK (T E:TypeId)(m:Tryz.prog.underlying T=some (.map 5 E))(w:World)(a:List (Nat × Value))(k K:Nat)(v:Value)(b:a[k]? = some (K,v))(o:(qW K (a.take k)).isNone=true) :
  (Instr.mapUpdate T (.map (some w.heap.size)) (.int .u8 K) v).run Tryz.prog (w.alloc (.map (iC (a.take k) 0).toArray k))=.ok () (w.alloc (.map (iC (a.take (k+1)) 0).toArray (k+1))):=by
 have e:k < a.length:=(akV.1 b).1;have h:=iO T E m w (a.take k) K v (by simpa using o);have d:(a.take k).length=k:=by rw [List.length_take];omega
 rw [d] at h
 rw [h,List.take_succ_eq_append_getElem e];rw [akU e] at b
 injection b with b
 rw [b]
def gD:List (Nat × Value):=[(5,.string (aH [110,111,116])),(6,.string (aH [43])),(7,.string (aH [45])),(8,.string (aH [42])),(9,.string (aH [47])),(10,.string (aH [37])),(11,.string (aH [61,61])),(12,.string (aH [33,61])),(13,.string (aH [60])),(14,.string (aH [60,61])),(15,.string (aH [62])),(16,.string (aH [62,61])),(17,.string (aH [97,110,100])),(18,.string (aH [111,114]))]
def BN (k:Nat):Bs:=if k=5 then [110,111,116] else if 6≤k∧k≤18 then Fv k else []
theorem abr (x:Nat):(qW x gD).getD (.string ByteArray.empty)=.string (aH (BN x)):=by
 by_cases h:x < 19
 ·have h2:∀ j:Fin 19,∃ s,(qW j.val gD).getD (.string ByteArray.empty)=.string (aH s)∧s=BN j.val:=by
   intro j;obtain⟨j,d⟩:=j;have b:j=0∨j=1∨j=2∨j=3∨j=4∨j=5∨j=6∨j=7∨j=8∨j=9∨j=10∨j=11∨j=12∨j=13∨j=14∨j=15∨j=16∨j=17∨j=18:=by omega
   rcases b with rfl | rfl | rfl | rfl | rfl | rfl | rfl | rfl | rfl | rfl | rfl | rfl | rfl | rfl | rfl | rfl | rfl | rfl | rfl <;> first | exact⟨_,rfl,rfl⟩ | exact⟨[],rfl,rfl⟩
  obtain⟨s,e,rfl⟩:=h2 ⟨x,h⟩;exact e
 ·have a:BN x=[]:=by unfold BN;rw [if_neg (by omega),if_neg (by omega)]
  rw [a];simp only [gD,qW]
  repeat rw [if_neg (by omega)]
  rfl
theorem Iy (w:World):(zeroValue 9).run Tryz.prog w=.ok (.string ByteArray.empty) w:=by kernel_rfl
theorem yK (w:World)(m c:Nat)(a:w.heap[m]? = some (.map (iC gD 0).toArray c))(x:Nat):(Instr.lookup 103 (.map (some m)) (.int .u8 x) false).run Tryz.prog w=.ok (.string (aH (BN x))) w:=by
 have h:=Ee 103 9 (.string ByteArray.empty) Tryz.underlying103 w (Iy w) gD m c a x;rw [h,abr]
theorem WE (w:World):Calls Tryz.prog 142 #[] w fun e o=>e=.returned (.map (some w.heap.size))∧o=w.alloc (.map (iC gD 0).toArray 14):=by
 have a:=@run_makeMap Tryz.prog;have r:(Instr.mapUpdate 103 (.map (some w.heap.size)) (.int .u8 5) (.string ⟨#[110,111,116]⟩)).run Tryz.prog (w.alloc (.map #[] 0))=.ok () (w.alloc (.map (iC (gD.take 1) 0).toArray 1)):=mK 103 9 Tryz.underlying103 w gD 0 5 _ rfl rfl;have t:(Instr.mapUpdate 103 (.map (some w.heap.size)) (.int .u8 6) (.string ⟨#[43]⟩)).run Tryz.prog (w.alloc (.map (iC (gD.take 1) 0).toArray 1))=.ok () (w.alloc (.map (iC (gD.take 2) 0).toArray 2)):=mK 103 9 Tryz.underlying103 w gD 1 6 _ rfl rfl;have u:(Instr.mapUpdate 103 (.map (some w.heap.size)) (.int .u8 7) (.string ⟨#[45]⟩)).run Tryz.prog (w.alloc (.map (iC (gD.take 2) 0).toArray 2))=.ok () (w.alloc (.map (iC (gD.take 3) 0).toArray 3)):=mK 103 9 Tryz.underlying103 w gD 2 7 _ rfl rfl;have v:(Instr.mapUpdate 103 (.map (some w.heap.size)) (.int .u8 8) (.string ⟨#[42]⟩)).run Tryz.prog (w.alloc (.map (iC (gD.take 3) 0).toArray 3))=.ok () (w.alloc (.map (iC (gD.take 4) 0).toArray 4)):=mK 103 9 Tryz.underlying103 w gD 3 8 _ rfl rfl;have C:(Instr.mapUpdate 103 (.map (some w.heap.size)) (.int .u8 9) (.string ⟨#[47]⟩)).run Tryz.prog (w.alloc (.map (iC (gD.take 4) 0).toArray 4))=.ok () (w.alloc (.map (iC (gD.take 5) 0).toArray 5)):=mK 103 9 Tryz.underlying103 w gD 4 9 _ rfl rfl;have D:(Instr.mapUpdate 103 (.map (some w.heap.size)) (.int .u8 10) (.string ⟨#[37]⟩)).run Tryz.prog (w.alloc (.map (iC (gD.take 5) 0).toArray 5))=.ok () (w.alloc (.map (iC (gD.take 6) 0).toArray 6)):=mK 103 9 Tryz.underlying103 w gD 5 10 _ rfl rfl;have E:(Instr.mapUpdate 103 (.map (some w.heap.size)) (.int .u8 11) (.string ⟨#[61,61]⟩)).run Tryz.prog (w.alloc (.map (iC (gD.take 6) 0).toArray 6))=.ok () (w.alloc (.map (iC (gD.take 7) 0).toArray 7)):=mK 103 9 Tryz.underlying103 w gD 6 11 _ rfl rfl;have F:(Instr.mapUpdate 103 (.map (some w.heap.size)) (.int .u8 12) (.string ⟨#[33,61]⟩)).run Tryz.prog (w.alloc (.map (iC (gD.take 7) 0).toArray 7))=.ok () (w.alloc (.map (iC (gD.take 8) 0).toArray 8)):=mK 103 9 Tryz.underlying103 w gD 7 12 _ rfl rfl;have G:(Instr.mapUpdate 103 (.map (some w.heap.size)) (.int .u8 13) (.string ⟨#[60]⟩)).run Tryz.prog (w.alloc (.map (iC (gD.take 8) 0).toArray 8))=.ok () (w.alloc (.map (iC (gD.take 9) 0).toArray 9)):=mK 103 9 Tryz.underlying103 w gD 8 13 _ rfl rfl;have H:(Instr.mapUpdate 103 (.map (some w.heap.size)) (.int .u8 14) (.string ⟨#[60,61]⟩)).run Tryz.prog (w.alloc (.map (iC (gD.take 9) 0).toArray 9))=.ok () (w.alloc (.map (iC (gD.take 10) 0).toArray 10)):=mK 103 9 Tryz.underlying103 w gD 9 14 _ rfl rfl;have b:(Instr.mapUpdate 103 (.map (some w.heap.size)) (.int .u8 15) (.string ⟨#[62]⟩)).run Tryz.prog (w.alloc (.map (iC (gD.take 10) 0).toArray 10))=.ok () (w.alloc (.map (iC (gD.take 11) 0).toArray 11)):=mK 103 9 Tryz.underlying103 w gD 10 15 _ rfl rfl;have d:(Instr.mapUpdate 103 (.map (some w.heap.size)) (.int .u8 16) (.string ⟨#[62,61]⟩)).run Tryz.prog (w.alloc (.map (iC (gD.take 11) 0).toArray 11))=.ok () (w.alloc (.map (iC (gD.take 12) 0).toArray 12)):=mK 103 9 Tryz.underlying103 w gD 11 16 _ rfl rfl;have k:(Instr.mapUpdate 103 (.map (some w.heap.size)) (.int .u8 17) (.string ⟨#[97,110,100]⟩)).run Tryz.prog (w.alloc (.map (iC (gD.take 12) 0).toArray 12))=.ok () (w.alloc (.map (iC (gD.take 13) 0).toArray 13)):=mK 103 9 Tryz.underlying103 w gD 12 17 _ rfl rfl;have m:(Instr.mapUpdate 103 (.map (some w.heap.size)) (.int .u8 18) (.string ⟨#[111,114]⟩)).run Tryz.prog (w.alloc (.map (iC (gD.take 13) 0).toArray 13))=.ok () (w.alloc (.map (iC (gD.take 14) 0).toArray 14)):=mK 103 9 Tryz.underlying103 w gD 13 18 _ rfl rfl;go_in
 go_wp2_with fail;go_ret;exact⟨rfl,rfl⟩
end
set_option linter.all false
section
open Go.RowKit Mist
attribute [local go_sem] ah aM aV au ak
abbrev rS (h g b2 b3:Nat) (cs:Array Value) (S:Sz):Sz:=(h+2,57,#[D8 b2 b3]) :: (h+1,50,cs) :: (h,58,#[.pointer (some ⟨g,0,none⟩)]) :: S
section
variable {S:Sz} {B g n c f i j q b2 b3 h:Nat} {cs:Array Value} {w W:World} {A Bi:Option Addr} {nv iv pv:Value} {ps l:List Pz} {xs:List NV} {its:List Int} {x y:NV}
theorem rsH (b2 b3:Nat)(cs:Array Value)(H:Hid (PZ S B g w W nv iv pv ps)):Hid (PZ (rS W.heap.size g b2 b3 cs S) B g w (((W.alloc (.cells #[.pointer (some ⟨g,0,none⟩)] 58)).alloc (.cells cs 50)).alloc (.cells #[D8 b2 b3] 57)) nv iv pv ps):=by
 have a:(W.alloc (.cells #[.pointer (some ⟨g,0,none⟩)] 58)).heap.size=W.heap.size+1:=by simp
 have b:((W.alloc (.cells #[.pointer (some ⟨g,0,none⟩)] 58)).alloc (.cells cs 50)).heap.size=W.heap.size+2:=by simp
 have h3:=((H.o.box (T:=58) (cs:=#[.pointer (some ⟨g,0,none⟩)]) (by decide)).box (T:=50) (cs:=cs) (by decide)).box (T:=57) (cs:=#[D8 b2 b3]) (by decide);rw [a,b] at h3
 exact O h3
theorem iX (H:Hid (PZ (rS h g b2 b3 cs S) B g w W nv iv pv ps)):W.cell? ⟨h,0,none⟩=some (.pointer (some ⟨g,0,none⟩))∧W.cell? ⟨h+1,0,none⟩=cs[0]? ∧ W.cell? ⟨h+1,1,none⟩=cs[1]? ∧ W.cell? ⟨h+1,3,none⟩=cs[3]? ∧ W.cell? ⟨h+2,0,none⟩=some (.func (.func 140) #[] #[.pointer (some ⟨b2,0,none⟩),.pointer (some ⟨b3,0,none⟩)]) :=
 ⟨(H.o.kp _ (List.mem_cons_of_mem _ (List.mem_cons_of_mem _ (List.mem_cons_self ..)))).1.cell 0,(H.o.kp _ (List.mem_cons_of_mem _ (List.mem_cons_self ..))).1.cell 0,(H.o.kp _ (List.mem_cons_of_mem _ (List.mem_cons_self ..))).1.cell 1,(H.o.kp _ (List.mem_cons_of_mem _ (List.mem_cons_self ..))).1.cell 3,(H.o.kp _ (List.mem_cons_self ..)).1.cell 0⟩
theorem afu (h g b2 b3:Nat)(S:Sz)(e:lg x=cs):(h+1,50,lg x) ∈ rS h g b2 b3 cs S:=by rw [e];exact List.mem_cons_of_mem _ (List.mem_cons_self ..)
theorem aft (h g b2 b3:Nat)(cs:Array Value)(S:Sz):(h+2,57,#[D8 b2 b3]) ∈ rS h g b2 b3 cs S:=List.mem_cons_self ..
theorem afv (h g b2 b3:Nat)(cs:Array Value)(S:Sz):(h,58,#[.pointer (some ⟨g,0,none⟩)]) ∈ rS h g b2 b3 cs S:=List.mem_cons_of_mem _ (List.mem_cons_of_mem _ (List.mem_cons_self ..))
theorem yU {e:Nat × TypeId × Array Value}(a:e ∈ S):e ∈ rS h g b2 b3 cs S:=List.mem_cons_of_mem _ (List.mem_cons_of_mem _ (List.mem_cons_of_mem _ a))
theorem PZ.rs (H:PZ (rS h g b2 b3 cs S) B g w W nv iv pv ps):PZ S B g w W nv iv pv ps:=H.tl.tl.tl
theorem Td {W a:World}(d:Below W.heap.size W a):Calls Tryz.prog 142 #[] a fun e b=>∃ k c,e=.returned (.map (some k))∧b.heap[k]? = some (.map (iC gD 0).toArray c)∧Below W.heap.size W b:=by
 refine (WE a).mono ?_;rintro e m⟨rfl,rfl⟩;exact⟨_,14,rfl,heap_alloc_new a _,d.alloc d.size _⟩
theorem VQ (H:Hid (PZ S B g w W (.slice A n c) iv pv ps))(X:CX w B A Bi n xs its)(K:KX w B g A n c iv xs its f i x)(N:x.1.kind=21)(h2:(b2,58,#[.pointer (some ⟨g,0,none⟩)]) ∈ S)(h3:(b3,3,#[.int .i64 (i:Nat)]) ∈ S)(Z:0 < f)(E:∀ j,j < x.1.kids.length→KE w B g A n c iv xs its f x j)
  (I:ps.length+(cZ ⟨aF xs,its⟩ (aQ ⟨aF xs,its⟩ f) i).length≤1000000) :
  Calls Tryz.prog 143 #[.pointer (some ⟨g,0,none⟩),.int .i64 i,.agg (lg x),D8 b2 b3] W (l7 S B g w (.slice A n c) iv (iG ps (cZ ⟨aF xs,its⟩ (aQ ⟨aF xs,its⟩ f) i))):=by
 have en:=En (T:=⟨aF xs,its⟩) (B:=aQ ⟨aF xs,its⟩ f) (i:=i) (by rw [bI its K.hx];exact N)
 try rw [bI its K.hx] at en
 rw [en] at I ⊢
 obtain⟨M,kc,t,hkl,G⟩:=X.kids H.o K.hx;obtain⟨m,J⟩:∃ m,m=x.1.kids.length:=⟨_,rfl⟩;have F:lg x=#[.int .u8 21,.string (aH x.1.text),.int .i64 x.1.n,.slice M m kc,.int .i64 x.1.at_]:=by unfold lg;rw [N,t,J];rfl
 have D:=rsH b2 b3 #[.int .u8 21,.string (aH x.1.text),.int .i64 x.1.n,.slice M m kc,.int .i64 x.1.at_] H;have P:=O F;have r:=O I;have V:=O X;have U:=O K;have HM:=O J;have R:=O E;obtain⟨c4,b,d,k,a⟩:=iX D;rw [F];unfold D8;clear H t G I X K F J en E;go_in
 go_wp2_with fail;refine (zC D x.1.text (i:Int) (by have:=r.o;simp [aj] at this;omega)).mono ?_;rintro e w1⟨wP,rfl,u⟩;clear c4 b d k a D;obtain⟨c4,b,d,k,a⟩:=iX u;go_wp2_with fail;refine (vR u [40] (-1) (by simp) (by have:=r.o;simp [aj] at this ⊢;omega)).mono ?_;rintro e w2⟨mZ,rfl,v⟩;clear c4 b d k a u;obtain⟨c4,b,d,k,a⟩:=iX v;go_wp2_with fail;refine (in2 v 174 #[.pointer (some ⟨W.heap.size,0,none⟩),.pointer (some ⟨W.heap.size+1,0,none⟩),.pointer (some ⟨W.heap.size+2,0,none⟩)] (ig ⟨aF xs,its⟩ (aQ ⟨aF xs,its⟩ f) i x.1.kids.length) (by simp) (by have:=r.o;simp [aj] at this ⊢;omega) (fun Y=>by kernel_rfl) (fun Y pv' Q=>rl1 Q V.o U.o (afv _ _ _ _ _ _) (afu _ _ _ _ _ P.o) (aft _ _ _ _ _ _) (yU h2) (yU h3) Z R.o (by have:=r.o;rw [eU];simp [aj] at this ⊢;omega))).mono ?_;rintro e w3⟨tX,rfl,C⟩;clear c4 b d k a v;obtain⟨c4,b,d,k,a⟩:=iX C;go_wp2_with fail;refine (vR C [41] (-1) (by simp) (by have:=r.o;simp [aj] at this ⊢;omega)).mono ?_;rintro e w4⟨Cw,rfl,L⟩;clear c4 b d k a C;obtain⟨c4,b,d,k,a⟩:=iX L;go_wp2_with fail;go_end0
 exact⟨_,rfl,O (by have h:=L.o.rs;simpa [List.append_assoc] using h)⟩
theorem QH (H:Hid (PZ S B g w W (.slice A n c) iv pv ps))(X:CX w B A Bi n xs its)(K:KX w B g A n c iv xs its f i x)(M:x.1.kind=26)(h2:(b2,58,#[.pointer (some ⟨g,0,none⟩)]) ∈ S)(h3:(b3,3,#[.int .i64 (i:Nat)]) ∈ S)(Y:0 < f)(E:∀ j,j < x.1.kids.length→KE w B g A n c iv xs its f x j)
  (G:ps.length+(cZ ⟨aF xs,its⟩ (aQ ⟨aF xs,its⟩ f) i).length≤1000000) :
  Calls Tryz.prog 143 #[.pointer (some ⟨g,0,none⟩),.int .i64 i,.agg (lg x),D8 b2 b3] W (l7 S B g w (.slice A n c) iv (iG ps (cZ ⟨aF xs,its⟩ (aQ ⟨aF xs,its⟩ f) i))):=by
 have en:=Et (T:=⟨aF xs,its⟩) (B:=aQ ⟨aF xs,its⟩ f) (i:=i) (by rw [bI its K.hx];exact M)
 try rw [bI its K.hx] at en
 rw [en] at G ⊢
 obtain⟨L,kc,r,Z,F⟩:=X.kids H.o K.hx;obtain⟨m,I⟩:∃ m,m=x.1.kids.length:=⟨_,rfl⟩;have D:lg x=#[.int .u8 26,.string (aH x.1.text),.int .i64 x.1.n,.slice L m kc,.int .i64 x.1.at_]:=by unfold lg;rw [M,r,I];rfl
 have C:=rsH b2 b3 #[.int .u8 26,.string (aH x.1.text),.int .i64 x.1.n,.slice L m kc,.int .i64 x.1.at_] H;have N:=O D;have t:=O G;have U:=O X;have R:=O K;have HM:=O I;have Q:=O E;obtain⟨c4,b,d,k,a⟩:=iX C;rw [D];unfold D8;clear H r F G X K D I en E;go_in
 go_wp2_with fail;refine (zC C [91] (i:Int) (by have:=t.o;simp [aj] at this;omega)).mono ?_;rintro e w1⟨wP,rfl,u⟩;clear c4 b d k a C;obtain⟨c4,b,d,k,a⟩:=iX u;go_wp2_with fail;refine (in2 u 178 #[.pointer (some ⟨W.heap.size,0,none⟩),.pointer (some ⟨W.heap.size+1,0,none⟩),.pointer (some ⟨W.heap.size+2,0,none⟩)] (ig ⟨aF xs,its⟩ (aQ ⟨aF xs,its⟩ f) i x.1.kids.length) (by simp) (by have:=t.o;simp [aj] at this ⊢;omega) (fun V=>by kernel_rfl) (fun V pv' P=>rl4 P U.o R.o (afv _ _ _ _ _ _) (afu _ _ _ _ _ N.o) (aft _ _ _ _ _ _) (yU h2) (yU h3) Y Q.o (by have:=t.o;rw [eU];simp [aj] at this ⊢;omega))).mono ?_;rintro e w2⟨mZ,rfl,v⟩;clear c4 b d k a u;obtain⟨c4,b,d,k,a⟩:=iX v;go_wp2_with fail;refine (vR v [93] (-1) (by simp) (by have:=t.o;simp [aj] at this ⊢;omega)).mono ?_;rintro e w3⟨tX,rfl,J⟩;clear c4 b d k a v;obtain⟨c4,b,d,k,a⟩:=iX J;go_wp2_with fail;go_end0
 exact⟨_,rfl,O (by have h:=J.o.rs;simpa [List.append_assoc] using h)⟩
theorem QJ (H:Hid (PZ S B g w W (.slice A n c) iv pv ps))(X:CX w B A Bi n xs its)(K:KX w B g A n c iv xs its f i x)(M:x.1.kind=22)(h2:(b2,58,#[.pointer (some ⟨g,0,none⟩)]) ∈ S)(h3:(b3,3,#[.int .i64 (i:Nat)]) ∈ S)(U:0 < f)(Y:x.1.kids.length=1)(E:∀ j,j < x.1.kids.length→KE w B g A n c iv xs its f x j)
  (G:ps.length+(cZ ⟨aF xs,its⟩ (aQ ⟨aF xs,its⟩ f) i).length≤1000000) :
  Calls Tryz.prog 143 #[.pointer (some ⟨g,0,none⟩),.int .i64 i,.agg (lg x),D8 b2 b3] W (l7 S B g w (.slice A n c) iv (iG ps (cZ ⟨aF xs,its⟩ (aQ ⟨aF xs,its⟩ f) i))):=by
 have en:=Eo (T:=⟨aF xs,its⟩) (B:=aQ ⟨aF xs,its⟩ f) (i:=i) (by rw [bI its K.hx];exact M)
 try rw [bI its K.hx] at en
 rw [en] at G ⊢
 obtain⟨L,kc,r,V,F⟩:=X.kids H.o K.hx;obtain⟨m,I⟩:∃ m,m=x.1.kids.length:=⟨_,rfl⟩;have D:lg x=#[.int .u8 22,.string (aH x.1.text),.int .i64 x.1.n,.slice L m kc,.int .i64 x.1.at_]:=by unfold lg;rw [M,r,I];rfl
 have C:=rsH b2 b3 #[.int .u8 22,.string (aH x.1.text),.int .i64 x.1.n,.slice L m kc,.int .i64 x.1.at_] H;have Z:=O D;have v:=O G;have Q:=O X;have P:=O K;have R:=O (K.ne U 0 (.inr rfl));have HM:=O I;have N:=O E;obtain⟨c4,b,d,k,a⟩:=iX C;rw [D];unfold D8;clear H r F G X K D I en E;go_in
 go_wp2_with fail;refine (R_ C Q.o P.o (yU h2) (yU h3) (j:=0) (by omega) (N.o 0 (by omega)) (by have:=v.o;simp [aj] at this;omega)).mono ?_;rintro e w1⟨wP,rfl,t⟩;clear c4 b d k a C;obtain⟨c4,b,d,k,a⟩:=iX t;go_wp2_with fail;refine (vR t [46] (i:Int) (R.o) (by have:=v.o;simp [aj] at this ⊢;omega)).mono ?_;rintro e w2⟨mZ,rfl,u⟩;clear c4 b d k a t;obtain⟨c4,b,d,k,a⟩:=iX u;go_wp2_with fail;refine (vR u x.1.text (-1) (by simp) (by have:=v.o;simp [aj] at this ⊢;omega)).mono ?_;rintro e w3⟨tX,rfl,J⟩;clear c4 b d k a u;obtain⟨c4,b,d,k,a⟩:=iX J;go_wp2_with fail;go_end0
 exact⟨_,rfl,O (by have h:=J.o.rs;simpa [List.append_assoc] using h)⟩
theorem QK (H:Hid (PZ S B g w W (.slice A n c) iv pv ps))(X:CX w B A Bi n xs its)(K:KX w B g A n c iv xs its f i x)(R:x.1.kind=23)(h2:(b2,58,#[.pointer (some ⟨g,0,none⟩)]) ∈ S)(h3:(b3,3,#[.int .i64 (i:Nat)]) ∈ S)(Z:0 < f)(hm1:x.1.kids.length=2)(E:∀ j,j < x.1.kids.length→KE w B g A n c iv xs its f x j)
  (I:ps.length+(cZ ⟨aF xs,its⟩ (aQ ⟨aF xs,its⟩ f) i).length≤1000000) :
  Calls Tryz.prog 143 #[.pointer (some ⟨g,0,none⟩),.int .i64 i,.agg (lg x),D8 b2 b3] W (l7 S B g w (.slice A n c) iv (iG ps (cZ ⟨aF xs,its⟩ (aQ ⟨aF xs,its⟩ f) i))):=by
 have en:=Ep (T:=⟨aF xs,its⟩) (B:=aQ ⟨aF xs,its⟩ f) (i:=i) (by rw [bI its K.hx];exact R)
 try rw [bI its K.hx] at en
 rw [en] at I ⊢
 obtain⟨Q,kc,t,hkl,G⟩:=X.kids H.o K.hx;obtain⟨m,J⟩:∃ m,m=x.1.kids.length:=⟨_,rfl⟩;have F:lg x=#[.int .u8 23,.string (aH x.1.text),.int .i64 x.1.n,.slice Q m kc,.int .i64 x.1.at_]:=by unfold lg;rw [R,t,J];rfl
 have D:=rsH b2 b3 #[.int .u8 23,.string (aH x.1.text),.int .i64 x.1.n,.slice Q m kc,.int .i64 x.1.at_] H;have EB:=O F;have r:=O I;have P:=O X;have N:=O K;have V:=O (K.ne Z 0 (.inr rfl));have HM:=O J;have M:=O E;obtain⟨c4,b,d,k,a⟩:=iX D;rw [F];unfold D8;clear H t G I X K F J en E;go_in
 go_wp2_with fail;refine (R_ D P.o N.o (yU h2) (yU h3) (j:=0) (by omega) (M.o 0 (by omega)) (by have:=r.o;simp [aj] at this;omega)).mono ?_;rintro e w1⟨wP,rfl,u⟩;clear c4 b d k a D;obtain⟨c4,b,d,k,a⟩:=iX u;go_wp2_with fail;refine (vR u [91] (i:Int) (V.o) (by have:=r.o;simp [aj] at this ⊢;omega)).mono ?_;rintro e w2⟨mZ,rfl,v⟩;clear c4 b d k a u;obtain⟨c4,b,d,k,a⟩:=iX v;go_wp2_with fail;refine (in2 v 175 #[.pointer (some ⟨W.heap.size+2,0,none⟩)] (eO ⟨aF xs,its⟩ (aQ ⟨aF xs,its⟩ f) i 1) (by simp) (by have:=r.o;simp [aj] at this ⊢;omega) (fun Y=>by kernel_rfl) (fun Y pv' U=>rk2 U P.o N.o (aft _ _ _ _ _ _) (yU h2) (yU h3) (by omega) (M.o 1 (by omega)) (by have:=r.o;rw [eU];simp [aj] at this ⊢;omega))).mono ?_;rintro e w3⟨tX,rfl,C⟩;clear c4 b d k a v;obtain⟨c4,b,d,k,a⟩:=iX C;go_wp2_with fail;refine (vR C [93] (-1) (by simp) (by have:=r.o;simp [aj] at this ⊢;omega)).mono ?_;rintro e w4⟨Cw,rfl,L⟩;clear c4 b d k a C;obtain⟨c4,b,d,k,a⟩:=iX L;go_wp2_with fail;go_end0
 exact⟨_,rfl,O (by have h:=L.o.rs;simpa [List.append_assoc] using h)⟩
theorem aaW (H:Hid (PZ S B g w W (.slice A n c) iv pv ps))(X:CX w B A Bi n xs its)(K:KX w B g A n c iv xs its f i x)(U:x.1.kind=24)(h2:(b2,58,#[.pointer (some ⟨g,0,none⟩)]) ∈ S)(h3:(b3,3,#[.int .i64 (i:Nat)]) ∈ S)(hf:0 < f)(hm1:1≤x.1.kids.length)(F:∀ j q,j < x.1.kids.length→x.1.kids[j]? = some ((q:Nat):Int)→MC 177 w B g A n c iv ⟨aF xs,its⟩ f q)
  (L:ps.length+(cZ ⟨aF xs,its⟩ (aQ ⟨aF xs,its⟩ f) i).length≤1000000) :
  Calls Tryz.prog 143 #[.pointer (some ⟨g,0,none⟩),.int .i64 i,.agg (lg x),D8 b2 b3] W (l7 S B g w (.slice A n c) iv (iG ps (cZ ⟨aF xs,its⟩ (aQ ⟨aF xs,its⟩ f) i))):=by
 have en:=Er (T:=⟨aF xs,its⟩) (B:=aQ ⟨aF xs,its⟩ f) (i:=i) (by rw [bI its K.hx];exact U)
 try rw [bI its K.hx] at en
 rw [en] at L ⊢
 obtain⟨Q,kc,d,J,I⟩:=X.kids H.o K.hx;obtain⟨m,M⟩:∃ m,m=x.1.kids.length:=⟨_,rfl⟩;have G:lg x=#[.int .u8 24,.string (aH x.1.text),.int .i64 x.1.n,.slice Q m kc,.int .i64 x.1.at_]:=by unfold lg;rw [U,d,M];rfl
 have D:=rsH b2 b3 #[.int .u8 24,.string (aH x.1.text),.int .i64 x.1.n,.slice Q m kc,.int .i64 x.1.at_] H;have Z:=O G;have P:=O L;have HX:=O X;have a:=O K;have b:=O M;have HF:=O F;obtain⟨c4,t,u,v,r⟩:=iX D;rw [G];unfold D8;clear H d I L X K G M en F;go_in
 go_wp2_with fail;refine (zC D x.1.text (i:Int) (by have:=P.o;simp [aj] at this;omega)).mono ?_;rintro e w1⟨wP,rfl,C⟩;clear c4 t u v r D;obtain⟨c4,t,u,v,r⟩:=iX C;go_wp2_with fail
 refine (K4 true C (by simp) 176 #[.pointer (some ⟨W.heap.size,0,none⟩),.pointer (some ⟨W.heap.size+1,0,none⟩)] (eO ⟨aF xs,its⟩ (aQ ⟨aF xs,its⟩ f) i) m (a.o.ne hf 0 (.inr rfl)) (by have:=P.o;rw [b.o];simp [aj,ig] at this ⊢;omega) (by rw [b.o];exact J) (fun j W'=>by kernel_rfl)
   (fun S' j W' pv' qs Y R V h=>by
    obtain⟨q,y,E,e2,e3⟩:=a.o.k j (by rw [← b.o];exact R);have ek:eO ⟨aF xs,its⟩ (aQ ⟨aF xs,its⟩ f) i j=aQ ⟨aF xs,its⟩ f q:=mh (by rw [bI its a.o.hx];omega) (by rw [bI its a.o.hx];exact E);rw [ek] at V ⊢
    exact rk3 h HX.o a.o.hx (Y _ (afv _ _ _ _ _ _)) (Y _ (afu _ _ _ _ _ Z.o)) E (HF.o j q (by rw [← b.o];exact R) E) V)).mono ?_
 rintro e w2⟨mZ,rfl,N⟩;clear c4 t u v r C;obtain⟨c4,t,u,v,r⟩:=iX N;go_wp2_with fail;go_end0
 exact⟨_,rfl,O (by have h:=N.o.rs;rw [b.o] at h;simpa [ig,tz] using h)⟩
theorem ac2 (H:Hid (PZ S B g w W (.slice A n c) iv pv ps))(X:CX w B A Bi n xs its)(K:KX w B g A n c iv xs its f i x)(Q:6≤x.1.kind∧x.1.kind≤18)(h2:(b2,58,#[.pointer (some ⟨g,0,none⟩)]) ∈ S)(h3:(b3,3,#[.int .i64 (i:Nat)]) ∈ S)(hf:0 < f)(hm1:x.1.kids.length=2)(E:∀ j,j < x.1.kids.length→KE w B g A n c iv xs its f x j)
  (D:ps.length+(cZ ⟨aF xs,its⟩ (aQ ⟨aF xs,its⟩ f) i).length≤1000000) :
  Calls Tryz.prog 143 #[.pointer (some ⟨g,0,none⟩),.int .i64 i,.agg (lg x),D8 b2 b3] W (l7 S B g w (.slice A n c) iv (iG ps (cZ ⟨aF xs,its⟩ (aQ ⟨aF xs,its⟩ f) i))):=by
 have en:=EL (T:=⟨aF xs,its⟩) (B:=aQ ⟨aF xs,its⟩ f) (i:=i) (by rw [bI its K.hx];exact .inr (.inl Q))
 try rw [bI its K.hx] at en
 rw [en] at D ⊢
 obtain⟨M,kc,v,hkl,R⟩:=X.kids H.o K.hx;obtain⟨m,V⟩:∃ m,m=x.1.kids.length:=⟨_,rfl⟩;obtain⟨kd,t⟩:∃ k,k=x.1.kind:=⟨_,rfl⟩;rw [← t] at Q D ⊢
 have P:lg x=#[.int .u8 (kd:Nat),.string (aH x.1.text),.int .i64 x.1.n,.slice M m kc,.int .i64 x.1.at_]:=by unfold lg;rw [t,v,V]
 have J:=rsH b2 b3 #[.int .u8 (kd:Nat),.string (aH x.1.text),.int .i64 x.1.n,.slice M m kc,.int .i64 x.1.at_] H;have EB:=O P;have I:=O D;have HX:=O X;have HK:=O K;have K1:=O (K.ne hf 0 (.inr rfl));have HM:=O V;have Z:=O E;obtain⟨c4,b,d,r,a⟩:=iX J;rw [P];unfold D8;clear H v R D X K P V en E t;have z21:((kd:Int) == 21)=false:=by simp;omega
 have z22:((kd:Int) == 22)=false:=by simp;omega
 have z23:((kd:Int) == 23)=false:=by simp;omega
 have z24:((kd:Int) == 24)=false:=by simp;omega
 have z26:((kd:Int) == 26)=false:=by simp;omega
 go_in
 go_wp2_with fail;refine (R_ J HX.o HK.o (yU h2) (yU h3) (j:=0) (by omega) (Z.o 0 (by omega)) (by have:=I.o;simp [aj] at this;omega)).mono ?_;rintro e w1⟨wP,rfl,F⟩;clear c4 b d r a J;obtain⟨c4,b,d,r,a⟩:=iX F;go_upto_region 3 with (fail)
 have HW:=O fun (W2:World) (C:Below w1.heap.size w1 W2)=>Td C
 have L:=O (show BN kd=Fv kd by unfold BN;rw [if_neg (by omega),if_pos Q])
 go_region_held3 (fun w'=>w'.cell? ⟨W.heap.size,0,none⟩=some (.pointer (some ⟨g,0,none⟩))∧w'.cell? ⟨W.heap.size+1,0,none⟩=some (.int .u8 (kd:Nat))) (first | go_keep|(go_split_ands;refine⟨?_,?_⟩ <;> assumption))
  ((first
    | (go_at_call 142
       refine (HW.o _ (by (repeat (first|(with_reducible exact Below.refl _ _)|(with_reducible refine Below.drew ?_)));done)).mono ?_;rintro e wA⟨mm,cc,rfl,Za,C⟩;have u:=O (F.o.below C);have U:=yK wA mm cc Za kd;have N:=yK wA.drew mm cc Za kd;clear c4 b d r a C;obtain⟨c4,b,d,r,a⟩:=iX u)
    | (go_at_call 52
       refine (Gf (S:=rS W.heap.size g b2 b3 #[.int .u8 (kd:Nat),.string (aH x.1.text),.int .i64 x.1.n,.slice M m kc,.int .i64 x.1.at_] S) (by first | exact u | exact O u.o.drew | exact O u.o.drew.drew | exact O (u.o.drewN _)) (BN kd) (i:Int) K1.o (by have:=I.o;simp [aj] at this ⊢;omega)).mono ?_;rintro e w2⟨mZ,rfl,G⟩;clear c4 b d r a U N;obtain⟨c4,b,d,r,a⟩:=iX G)))
 all_goals
  clear u F HW;go_wp2_with fail;refine (R_ G HX.o HK.o (yU h2) (yU h3) (j:=1) (by omega) (Z.o 1 (by omega)) (by have:=I.o;rw [eU];simp [aj] at this ⊢;omega)).mono ?_;rintro e w3⟨tX,rfl,Y⟩;clear c4 b d r a G;obtain⟨c4,b,d,r,a⟩:=iX Y;go_wp2_with fail;go_end0
  exact⟨_,rfl,O (by have h:=Y.o.rs;rw [L.o,sD ps _ _ (by simp)] at h;simpa [List.append_assoc] using h)⟩
end
end
