/-
  A part of the proof.
-/
import Derived.Test.YtflnfhhgamldhaaGreatDoorS30
set_option linter.all false
set_option maxRecDepth 100000
set_option maxHeartbeats 2000000
namespace Go.Proofs.YtflnfhhgamldhaaGreatDoor
open Go.RowKit Mist
attribute [local go_sem] ah aM aV au ak
def WS (l:List Tok)(g:Nat)(w:World):Nat:=match w.cell? ⟨g,1,none⟩ with
 | some (.int _ k)=>l.length - k.toNat
 | _=>0
theorem iB {g:Nat}{tv:Value}{l:List Tok}{iv:Value}{w:World}{s:RS}{xs:List NV}{nv:Value}(h:QS g tv l iv w s xs nv):WS l g w=l.length - s.k:=by
 have c1:w.cell? ⟨g,1,none⟩=some (.int .i64 (s.k:Int)):=h.blk.cell 1;unfold WS;rw [c1];simp
theorem ac3 (l:List Tok)(n:Nat)(s:RS):bH l (n+1) (.lv .or) s=jF (bH l n (.lv .and) s) fun a b=>bH l n (.tail .or (hd a)) b:=by rw [bH] <;> first | rfl | simp
theorem aa1 (l:List Tok)(n:Nat)(s:RS):bH l (n+1) (.lv .and) s=jF (bH l n (.lv .not) s) fun a b=>bH l n (.tail .and (hd a)) b:=by rw [bH] <;> first | rfl | simp
theorem aa2 (l:List Tok)(n:Nat)(s:RS):bH l (n+1) (.lv .cmp) s=jF (bH l n (.lv .sum) s) fun a b=>bH l n (.tail .cmp (hd a)) b:=by rw [bH] <;> first | rfl | simp
theorem aa3 (l:List Tok)(n:Nat)(s:RS):bH l (n+1) (.lv .sum) s=jF (bH l n (.lv .term) s) fun a b=>bH l n (.tail .sum (hd a)) b:=by rw [bH] <;> first | rfl | simp
theorem VW (l:List Tok)(n:Nat)(s:RS):bH l (n+1) (.lv .term) s=jF (bH l n (.lv .unary) s) fun a b=>bH l n (.tail .term (hd a)) b:=by rw [bH] <;> first | rfl | simp
theorem ai3 (l:List Tok)(E:l.length≤1000)(n:Nat)(C:∀ m,m≤n→QC 181 l m (.lv .and)):QC 148 l (n+1) (.lv .or):=by
 intro g tv iv w s xs nv Y s' c hn h;have f:=O h;have q:=O (Mw.refl (g:=g) (w:=w) (xs:=xs) (nv:=nv));have W:=h.le;clear h;rw [ac3] at c
 obtain⟨R,t1,r1,c⟩:=aN c;have T:=(bQ _ _ _ _ _ c).few;have j:=O c;have H:=O r1;clear c r1;go_enter Tryz.func148,Tryz.ntmps148
 go_wp2_with fail;refine (C n (ak0 _) g tv iv _ _ _ _ _ _ H.o (by omega) f.o).mono ?_;rintro e w1⟨rfl,d,x,h,m⟩;have I:=O h;have J:=O (q.o.trans m);clear h m f q;go_wp2_with fail;go_loopw [3] (fun v wr=>∃ (m:Nat) (a:Int) (i:RS) (d:List NV) (x:Value),v=.int .i64 a∧m≤n∧Hid (bH l m (.tail .or a) i=some (Y,s'))∧Hid (QS g tv l iv wr i d x)∧Hid (Mw g w xs nv wr d x)) (fun _ wr=>WS l g wr)
 case atStart=>exact⟨n,hd R,t1,d,x,rfl,ak0 _,j,I,J⟩
 case round =>
  clear j H I J;obtain⟨M,rfl⟩:∃ M:World,M=wr:=⟨_,rfl⟩;obtain⟨m,a,i,d,x,rfl,hm,j,f,q⟩:=hrel;have Q:=f;have c:=j.o;clear j;rcases m with _ | m
  ·exact absurd c (by simp [bH])
  rw [bH] at c
  by_cases t:i.next l=[111,114]
  ·rw [show iJ .or (i.next l)=18 by rw [t];rfl,if_neg (by decide)] at c
   obtain⟨b,G,r2,c⟩:=aN c;obtain⟨b3,t3,L,c⟩:=aN c;obtain⟨rfl,rfl⟩:=bG L;rw [if_neg (by decide)] at c
   have y:=(bQ _ _ _ _ _ c).few;have D:G.ns.length≤100000:=by simp only [RS.put,ak5,ak_] at y;omega
   have U:i.k+1≤G.k:=(bQ _ _ _ _ _ r2).k;have V:=(dM (l:=l) (s:=i) (by rw [t];simp)).2;have S:(i.next l == [111,114])=true:=by rw [t];rfl
   have j:=O c;have B:=O r2;have P:=O t;clear c r2 L t y;go_wp2_with fail;refine (aX g tv l iv _ _ _ _ f.o E).mono ?_;rintro e N⟨rfl,u⟩;have F:=O (f.o.below u);have r:=O (q.o.aU u);clear u f q;go_wp2_with fail;refine (ac1 l E m (C m (by omega)) g tv iv _ _ _ _ 18 a b G B.o D (by rw [P.o];simp) F.o).mono ?_;rintro e tC⟨rfl,zi,Z,h,A⟩;have K:=O h;have X:=O (r.o.trans A);clear h A;go_wp2_with fail;exact⟨⟨m,_,_,zi,Z,rfl,by omega,j,K,X⟩,by rw [iB K.o,iB Q.o];simp only [RS.put];omega⟩
  rw [show iJ .or (i.next l)=0 by simp [iJ,t],if_pos rfl] at c
  have S:(i.next l == [111,114])=false:=by simpa using t
  obtain⟨rfl,rfl⟩:=dX c;clear c;go_wp2_with fail;refine (aX g tv l iv _ _ _ _ f.o E).mono ?_;rintro e N⟨rfl,u⟩;have F:=O (f.o.below u);have r:=O (q.o.aU u);clear u f q;go_wp2_with fail;go_ret;exact⟨rfl,_,_,F.o,r.o⟩
theorem ag4 (l:List Tok)(E:l.length≤1000)(n:Nat)(C:∀ m,m≤n→QC 194 l m (.lv .not)):QC 181 l (n+1) (.lv .and):=by
 intro g tv iv w s xs nv Y s' c hn h;have f:=O h;have q:=O (Mw.refl (g:=g) (w:=w) (xs:=xs) (nv:=nv));have W:=h.le;clear h;rw [aa1] at c
 obtain⟨R,t1,r1,c⟩:=aN c;have T:=(bQ _ _ _ _ _ c).few;have j:=O c;have H:=O r1;clear c r1;go_enter Tryz.func181,Tryz.ntmps181
 go_wp2_with fail;refine (C n (ak0 _) g tv iv _ _ _ _ _ _ H.o (by omega) f.o).mono ?_;rintro e w1⟨rfl,d,x,h,m⟩;have I:=O h;have J:=O (q.o.trans m);clear h m f q;go_wp2_with fail;go_loopw [3] (fun v wr=>∃ (m:Nat) (a:Int) (i:RS) (d:List NV) (x:Value),v=.int .i64 a∧m≤n∧Hid (bH l m (.tail .and a) i=some (Y,s'))∧Hid (QS g tv l iv wr i d x)∧Hid (Mw g w xs nv wr d x)) (fun _ wr=>WS l g wr)
 case atStart=>exact⟨n,hd R,t1,d,x,rfl,ak0 _,j,I,J⟩
 case round =>
  clear j H I J;obtain⟨M,rfl⟩:∃ M:World,M=wr:=⟨_,rfl⟩;obtain⟨m,a,i,d,x,rfl,hm,j,f,q⟩:=hrel;have Q:=f;have c:=j.o;clear j;rcases m with _ | m
  ·exact absurd c (by simp [bH])
  rw [bH] at c
  by_cases t:i.next l=[97,110,100]
  ·rw [show iJ .and (i.next l)=17 by rw [t];rfl,if_neg (by decide)] at c
   obtain⟨b,G,r2,c⟩:=aN c;obtain⟨b3,t3,L,c⟩:=aN c;obtain⟨rfl,rfl⟩:=bG L;rw [if_neg (by decide)] at c
   have y:=(bQ _ _ _ _ _ c).few;have D:G.ns.length≤100000:=by simp only [RS.put,ak5,ak_] at y;omega
   have U:i.k+1≤G.k:=(bQ _ _ _ _ _ r2).k;have V:=(dM (l:=l) (s:=i) (by rw [t];simp)).2;have S:(i.next l == [97,110,100])=true:=by rw [t];rfl
   have j:=O c;have B:=O r2;have P:=O t;clear c r2 L t y;go_wp2_with fail;refine (aX g tv l iv _ _ _ _ f.o E).mono ?_;rintro e N⟨rfl,u⟩;have F:=O (f.o.below u);have r:=O (q.o.aU u);clear u f q;go_wp2_with fail;refine (aaP l E m (C m (by omega)) g tv iv _ _ _ _ 17 a b G B.o D (by rw [P.o];simp) F.o).mono ?_;rintro e tC⟨rfl,zi,Z,h,A⟩;have K:=O h;have X:=O (r.o.trans A);clear h A;go_wp2_with fail;exact⟨⟨m,_,_,zi,Z,rfl,by omega,j,K,X⟩,by rw [iB K.o,iB Q.o];simp only [RS.put];omega⟩
  rw [show iJ .and (i.next l)=0 by simp [iJ,t],if_pos rfl] at c
  have S:(i.next l == [97,110,100])=false:=by simpa using t
  obtain⟨rfl,rfl⟩:=dX c;clear c;go_wp2_with fail;refine (aX g tv l iv _ _ _ _ f.o E).mono ?_;rintro e N⟨rfl,u⟩;have F:=O (f.o.below u);have r:=O (q.o.aU u);clear u f q;go_wp2_with fail;go_ret;exact⟨rfl,_,_,F.o,r.o⟩
theorem ag8 (l:List Tok)(F:l.length≤1000)(n:Nat)(C:∀ m,m≤n→QC 196 l m (.lv .term)):QC 195 l (n+1) (.lv .sum):=by
 intro g tv iv w s xs nv qs s' c hn h;have f:=O h;have x:=O (Mw.refl (g:=g) (w:=w) (xs:=xs) (nv:=nv));have hle:=h.le;clear h;rw [aa3] at c
 obtain⟨X,t1,r1,c⟩:=aN c;have hb1:=(bQ _ _ _ _ _ c).few;have u:=O c;have R:=O r1;clear c r1;go_enter Tryz.func195,Tryz.ntmps195
 go_wp2_with fail;refine (C n (ak0 _) g tv iv _ _ _ _ _ _ R.o (by omega) f.o).mono ?_;rintro e w1⟨rfl,t,E,h,m⟩;have S:=O h;have U:=O (x.o.trans m);clear h m f x;go_wp2_with fail;go_loopw [3] (fun v wr=>∃ (m:Nat) (a:Int) (d:RS) (t:List NV) (E:Value),v=.int .i64 a∧m≤n∧Hid (bH l m (.tail .sum a) d=some (qs,s'))∧Hid (QS g tv l iv wr d t E)∧Hid (Mw g w xs nv wr t E)) (fun _ wr=>WS l g wr)
 case atStart=>exact⟨n,hd X,t1,t,E,rfl,ak0 _,u,S,U⟩
 case round =>
  clear u R S U;obtain⟨W,rfl⟩:∃ W:World,W=wr:=⟨_,rfl⟩;obtain⟨m,a,d,t,E,rfl,hm,u,f,x⟩:=hrel;have T:=f;have c:=u.o;clear u;rcases m with _ | m
  ·exact absurd c (by simp [bH])
  rw [bH] at c
  by_cases y:d.next l=[43]
  ·rw [show iJ .sum (d.next l)=6 by rw [y];rfl,if_neg (by decide)] at c
   obtain⟨b,D,r2,c⟩:=aN c;obtain⟨Y,t3,I,c⟩:=aN c;obtain⟨rfl,rfl⟩:=bG I;rw [if_neg (by decide)] at c
   have q:=(bQ _ _ _ _ _ c).few;have B:D.ns.length≤100000:=by simp only [RS.put,ak5,ak_] at q;omega
   have K:d.k+1≤D.k:=(bQ _ _ _ _ _ r2).k;have L:=(dM (l:=l) (s:=d) (by rw [y];simp)).2;have V:(d.next l == [43])=true:=by rw [y];rfl
   have u:=O c;have A:=O r2;have J:=O y;clear c r2 I y q;go_wp2_with fail;refine (aX g tv l iv _ _ _ _ f.o F).mono ?_;rintro e Q⟨rfl,j⟩;have G:=O (f.o.below j);have i:=O (x.o.aU j);clear j f x;go_wp2_with fail;refine (MQ l F m (C m (by omega)) g tv iv _ _ _ _ 6 a b D A.o B (by rw [J.o];simp) G.o).mono ?_;rintro e tC⟨rfl,P,N,h,r⟩;have H:=O h;have M:=O (i.o.trans r);clear h r;go_wp2_with fail;exact⟨⟨m,_,_,P,N,rfl,by omega,u,H,M⟩,by rw [iB H.o,iB T.o];simp only [RS.put];omega⟩
  by_cases c1:d.next l=[45]
  ·rw [show iJ .sum (d.next l)=7 by rw [c1];rfl,if_neg (by decide)] at c
   obtain⟨b,D,r2,c⟩:=aN c;obtain⟨Y,t3,I,c⟩:=aN c;obtain⟨rfl,rfl⟩:=bG I;rw [if_neg (by decide)] at c
   have q:=(bQ _ _ _ _ _ c).few;have B:D.ns.length≤100000:=by simp only [RS.put,ak5,ak_] at q;omega
   have K:d.k+1≤D.k:=(bQ _ _ _ _ _ r2).k;have L:=(dM (l:=l) (s:=d) (by rw [c1];simp)).2;have V:(d.next l == [43])=false:=by simpa using y
   have Z:(d.next l == [45])=true:=by rw [c1];rfl
   have u:=O c;have A:=O r2;have J:=O c1;clear c r2 I c1 q;go_wp2_with fail;refine (aX g tv l iv _ _ _ _ f.o F).mono ?_;rintro e Q⟨rfl,j⟩;have G:=O (f.o.below j);have i:=O (x.o.aU j);clear j f x;go_wp2_with fail;refine (MQ l F m (C m (by omega)) g tv iv _ _ _ _ 7 a b D A.o B (by rw [J.o];simp) G.o).mono ?_;rintro e tC⟨rfl,P,N,h,r⟩;have H:=O h;have M:=O (i.o.trans r);clear h r;go_wp2_with fail;exact⟨⟨m,_,_,P,N,rfl,by omega,u,H,M⟩,by rw [iB H.o,iB T.o];simp only [RS.put];omega⟩
  rw [show iJ .sum (d.next l)=0 by simp [iJ,y,c1],if_pos rfl] at c
  have V:(d.next l == [43])=false:=by simpa using y
  have Z:(d.next l == [45])=false:=by simpa using c1
  obtain⟨rfl,rfl⟩:=dX c;clear c;go_wp2_with fail;refine (aX g tv l iv _ _ _ _ f.o F).mono ?_;rintro e Q⟨rfl,j⟩;have G:=O (f.o.below j);have i:=O (x.o.aU j);clear j f x;go_wp2_with fail;go_ret;exact⟨rfl,_,_,G.o,i.o⟩
theorem afs (l:List Tok)(G:l.length≤1000)(n:Nat)(C:∀ m,m≤n→QC 197 l m (.lv .unary)):QC 196 l (n+1) (.lv .term):=by
 intro g tv iv w s xs nv qs s' c hn h;have j:=O h;have x:=O (Mw.refl (g:=g) (w:=w) (xs:=xs) (nv:=nv));have hle:=h.le;clear h;rw [VW] at c
 obtain⟨a1,t1,r1,c⟩:=aN c;have hb1:=(bQ _ _ _ _ _ c).few;have t:=O c;have T:=O r1;clear c r1;go_enter Tryz.func196,Tryz.ntmps196
 go_wp2_with fail;refine (C n (ak0 _) g tv iv _ _ _ _ _ _ T.o (by omega) j.o).mono ?_;rintro e w1⟨rfl,B,J,h,m⟩;have U:=O h;have V:=O (x.o.trans m);clear h m j x;go_wp2_with fail;go_loopw [3] (fun v wr=>∃ (m:Nat) (a:Int) (d:RS) (B:List NV) (J:Value),v=.int .i64 a∧m≤n∧Hid (bH l m (.tail .term a) d=some (qs,s'))∧Hid (QS g tv l iv wr d B J)∧Hid (Mw g w xs nv wr B J)) (fun _ wr=>WS l g wr)
 case atStart=>exact⟨n,hd a1,t1,B,J,rfl,ak0 _,t,U,V⟩
 case round =>
  clear t T U V;obtain⟨wo,rfl⟩:∃ wo:World,wo=wr:=⟨_,rfl⟩;obtain⟨m,a,d,B,J,rfl,hm,t,j,x⟩:=hrel;have R:=j;have c:=t.o;clear t;rcases m with _ | m
  ·exact absurd c (by simp [bH])
  rw [bH] at c
  by_cases D:d.next l=[42]
  ·rw [show iJ .term (d.next l)=8 by rw [D];rfl,if_neg (by decide)] at c
   obtain⟨b,A,r2,c⟩:=aN c;obtain⟨W,Y,F,c⟩:=aN c;obtain⟨rfl,rfl⟩:=bG F;rw [if_neg (by decide)] at c
   have f:=(bQ _ _ _ _ _ c).few;have y:A.ns.length≤100000:=by simp only [RS.put,ak5,ak_] at f;omega
   have K:d.k+1≤A.k:=(bQ _ _ _ _ _ r2).k;have L:=(dM (l:=l) (s:=d) (by rw [D];simp)).2;have S:(d.next l == [42])=true:=by rw [D];rfl
   have t:=O c;have u:=O r2;have I:=O D;clear c r2 F D f;go_wp2_with fail;refine (aX g tv l iv _ _ _ _ j.o G).mono ?_;rintro e Q⟨rfl,r⟩;have H:=O (j.o.below r);have q:=O (x.o.aU r);clear r j x;go_wp2_with fail;refine (AO l G m (C m (by omega)) g tv iv _ _ _ _ 8 a b A u.o y (by rw [I.o];simp) H.o).mono ?_;rintro e Z⟨rfl,P,N,h,i⟩;have E:=O h;have M:=O (q.o.trans i);clear h i;go_wp2_with fail;exact⟨⟨m,_,_,P,N,rfl,by omega,t,E,M⟩,by rw [iB E.o,iB R.o];simp only [RS.put];omega⟩
  by_cases c1:d.next l=[47]
  ·rw [show iJ .term (d.next l)=9 by rw [c1];rfl,if_neg (by decide)] at c
   obtain⟨b,A,r2,c⟩:=aN c;obtain⟨W,Y,F,c⟩:=aN c;obtain⟨rfl,rfl⟩:=bG F;rw [if_neg (by decide)] at c
   have f:=(bQ _ _ _ _ _ c).few;have y:A.ns.length≤100000:=by simp only [RS.put,ak5,ak_] at f;omega
   have K:d.k+1≤A.k:=(bQ _ _ _ _ _ r2).k;have L:=(dM (l:=l) (s:=d) (by rw [c1];simp)).2;have S:(d.next l == [42])=false:=by simpa using D
   have X:(d.next l == [47])=true:=by rw [c1];rfl
   have t:=O c;have u:=O r2;have I:=O c1;clear c r2 F c1 f;go_wp2_with fail;refine (aX g tv l iv _ _ _ _ j.o G).mono ?_;rintro e Q⟨rfl,r⟩;have H:=O (j.o.below r);have q:=O (x.o.aU r);clear r j x;go_wp2_with fail;refine (AO l G m (C m (by omega)) g tv iv _ _ _ _ 9 a b A u.o y (by rw [I.o];simp) H.o).mono ?_;rintro e Z⟨rfl,P,N,h,i⟩;have E:=O h;have M:=O (q.o.trans i);clear h i;go_wp2_with fail;exact⟨⟨m,_,_,P,N,rfl,by omega,t,E,M⟩,by rw [iB E.o,iB R.o];simp only [RS.put];omega⟩
  by_cases c2:d.next l=[37]
  ·rw [show iJ .term (d.next l)=10 by rw [c2];rfl,if_neg (by decide)] at c
   obtain⟨b,A,r2,c⟩:=aN c;obtain⟨W,Y,F,c⟩:=aN c;obtain⟨rfl,rfl⟩:=bG F;rw [if_neg (by decide)] at c
   have f:=(bQ _ _ _ _ _ c).few;have y:A.ns.length≤100000:=by simp only [RS.put,ak5,ak_] at f;omega
   have K:d.k+1≤A.k:=(bQ _ _ _ _ _ r2).k;have L:=(dM (l:=l) (s:=d) (by rw [c2];simp)).2;have S:(d.next l == [42])=false:=by simpa using D
   have X:(d.next l == [47])=false:=by simpa using c1
   have e2:(d.next l == [37])=true:=by rw [c2];rfl
   have t:=O c;have u:=O r2;have I:=O c2;clear c r2 F c2 f;go_wp2_with fail;refine (aX g tv l iv _ _ _ _ j.o G).mono ?_;rintro e Q⟨rfl,r⟩;have H:=O (j.o.below r);have q:=O (x.o.aU r);clear r j x;go_wp2_with fail;refine (AO l G m (C m (by omega)) g tv iv _ _ _ _ 10 a b A u.o y (by rw [I.o];simp) H.o).mono ?_;rintro e Z⟨rfl,P,N,h,i⟩;have E:=O h;have M:=O (q.o.trans i);clear h i;go_wp2_with fail;exact⟨⟨m,_,_,P,N,rfl,by omega,t,E,M⟩,by rw [iB E.o,iB R.o];simp only [RS.put];omega⟩
  rw [show iJ .term (d.next l)=0 by simp [iJ,D,c1,c2],if_pos rfl] at c
  have S:(d.next l == [42])=false:=by simpa using D
  have X:(d.next l == [47])=false:=by simpa using c1
  have e2:(d.next l == [37])=false:=by simpa using c2
  obtain⟨rfl,rfl⟩:=dX c;clear c;go_wp2_with fail;refine (aX g tv l iv _ _ _ _ j.o G).mono ?_;rintro e Q⟨rfl,r⟩;have H:=O (j.o.below r);have q:=O (x.o.aU r);clear r j x;go_wp2_with fail;go_ret;exact⟨rfl,_,_,H.o,q.o⟩
theorem ag6 (l:List Tok)(y:l.length≤1000)(n:Nat)(C:∀ m,m≤n→QC 195 l m (.lv .sum)):QC 206 l (n+1) (.lv .cmp):=by
 intro g tv iv w s xs nv qs s' a D h;have Q:=O h;have S:=O (Mw.refl (g:=g) (w:=w) (xs:=xs) (nv:=nv));have X:=h.le;clear h;rw [aa2] at a
 obtain⟨A,c,r1,a⟩:=aN a;have W:=(bQ _ _ _ _ _ a).few;have P:=O r1;clear r1;have R:=O a;clear a;go_enter Tryz.func206,Tryz.ntmps206
 go_wp2_with fail;refine (C n (ak0 _) g tv iv _ _ _ _ _ _ P.o (by omega) Q.o).mono ?_;rintro e w1⟨rfl,Y,Z,h,m⟩;have L:=O h;have T:=O (S.o.trans m);clear h m Q S;go_wp2_with fail;refine (aX g tv l iv _ _ _ _ L.o y).mono ?_;rintro e w2⟨rfl,N⟩;have v:=O (L.o.below N);have x:=O (T.o.aU N);clear N L T;have a:=R.o;clear R P;rcases n with _ | m
 ·exact absurd a (by simp [bH])
 rw [bH] at a
 by_cases u:c.next l=[61,61]
 ·rw [show iJ .cmp (c.next l)=11 by rw [u];rfl,if_neg (by decide)] at a
  obtain⟨b,k,r2,a⟩:=aN a;obtain⟨G,I,j,a⟩:=aN a;obtain⟨rfl,rfl⟩:=bG j;rw [if_pos rfl] at a
  obtain⟨rfl,rfl⟩:=dX a;have f:k.ns.length≤100000:=by simp only [RS.put,ak5,ak_] at D;omega
  have B:(c.next l == [61,61])=true:=by rw [u];rfl
  have d:=O r2;have r:=O u;clear a r2 j u;go_wp2_with fail;refine (sH l y m (C m (by omega)) g tv iv _ _ _ _ 11 (hd A) b k d.o f (by rw [r.o];simp) v.o).mono ?_;rintro e J⟨rfl,F,E,h,i⟩;have q:=O h;have t:=O (x.o.trans i);clear h i;go_wp2_with fail;go_ret;exact⟨rfl,_,_,q.o,t.o⟩
 by_cases c1:c.next l=[33,61]
 ·rw [show iJ .cmp (c.next l)=12 by rw [c1];rfl,if_neg (by decide)] at a
  obtain⟨b,k,r2,a⟩:=aN a;obtain⟨G,I,j,a⟩:=aN a;obtain⟨rfl,rfl⟩:=bG j;rw [if_pos rfl] at a
  obtain⟨rfl,rfl⟩:=dX a;have f:k.ns.length≤100000:=by simp only [RS.put,ak5,ak_] at D;omega
  have B:(c.next l == [61,61])=false:=by simpa using u
  have H:(c.next l == [33,61])=true:=by rw [c1];rfl
  have d:=O r2;have r:=O c1;clear a r2 j c1;go_wp2_with fail;refine (sH l y m (C m (by omega)) g tv iv _ _ _ _ 12 (hd A) b k d.o f (by rw [r.o];simp) v.o).mono ?_;rintro e J⟨rfl,F,E,h,i⟩;have q:=O h;have t:=O (x.o.trans i);clear h i;go_wp2_with fail;go_ret;exact⟨rfl,_,_,q.o,t.o⟩
 by_cases c2:c.next l=[60]
 ·rw [show iJ .cmp (c.next l)=13 by rw [c2];rfl,if_neg (by decide)] at a
  obtain⟨b,k,r2,a⟩:=aN a;obtain⟨G,I,j,a⟩:=aN a;obtain⟨rfl,rfl⟩:=bG j;rw [if_pos rfl] at a
  obtain⟨rfl,rfl⟩:=dX a;have f:k.ns.length≤100000:=by simp only [RS.put,ak5,ak_] at D;omega
  have B:(c.next l == [61,61])=false:=by simpa using u
  have H:(c.next l == [33,61])=false:=by simpa using c1
  have K:(c.next l == [60])=true:=by rw [c2];rfl
  have d:=O r2;have r:=O c2;clear a r2 j c2;go_wp2_with fail;refine (sH l y m (C m (by omega)) g tv iv _ _ _ _ 13 (hd A) b k d.o f (by rw [r.o];simp) v.o).mono ?_;rintro e J⟨rfl,F,E,h,i⟩;have q:=O h;have t:=O (x.o.trans i);clear h i;go_wp2_with fail;go_ret;exact⟨rfl,_,_,q.o,t.o⟩
 by_cases c3:c.next l=[60,61]
 ·rw [show iJ .cmp (c.next l)=14 by rw [c3];rfl,if_neg (by decide)] at a
  obtain⟨b,k,r2,a⟩:=aN a;obtain⟨G,I,j,a⟩:=aN a;obtain⟨rfl,rfl⟩:=bG j;rw [if_pos rfl] at a
  obtain⟨rfl,rfl⟩:=dX a;have f:k.ns.length≤100000:=by simp only [RS.put,ak5,ak_] at D;omega
  have B:(c.next l == [61,61])=false:=by simpa using u
  have H:(c.next l == [33,61])=false:=by simpa using c1
  have K:(c.next l == [60])=false:=by simpa using c2
  have M:(c.next l == [60,61])=true:=by rw [c3];rfl
  have d:=O r2;have r:=O c3;clear a r2 j c3;go_wp2_with fail;refine (sH l y m (C m (by omega)) g tv iv _ _ _ _ 14 (hd A) b k d.o f (by rw [r.o];simp) v.o).mono ?_;rintro e J⟨rfl,F,E,h,i⟩;have q:=O h;have t:=O (x.o.trans i);clear h i;go_wp2_with fail;go_ret;exact⟨rfl,_,_,q.o,t.o⟩
 by_cases c4:c.next l=[62]
 ·rw [show iJ .cmp (c.next l)=15 by rw [c4];rfl,if_neg (by decide)] at a
  obtain⟨b,k,r2,a⟩:=aN a;obtain⟨G,I,j,a⟩:=aN a;obtain⟨rfl,rfl⟩:=bG j;rw [if_pos rfl] at a
  obtain⟨rfl,rfl⟩:=dX a;have f:k.ns.length≤100000:=by simp only [RS.put,ak5,ak_] at D;omega
  have B:(c.next l == [61,61])=false:=by simpa using u
  have H:(c.next l == [33,61])=false:=by simpa using c1
  have K:(c.next l == [60])=false:=by simpa using c2
  have M:(c.next l == [60,61])=false:=by simpa using c3
  have U:(c.next l == [62])=true:=by rw [c4];rfl
  have d:=O r2;have r:=O c4;clear a r2 j c4;go_wp2_with fail;refine (sH l y m (C m (by omega)) g tv iv _ _ _ _ 15 (hd A) b k d.o f (by rw [r.o];simp) v.o).mono ?_;rintro e J⟨rfl,F,E,h,i⟩;have q:=O h;have t:=O (x.o.trans i);clear h i;go_wp2_with fail;go_ret;exact⟨rfl,_,_,q.o,t.o⟩
 by_cases c5:c.next l=[62,61]
 ·rw [show iJ .cmp (c.next l)=16 by rw [c5];rfl,if_neg (by decide)] at a
  obtain⟨b,k,r2,a⟩:=aN a;obtain⟨G,I,j,a⟩:=aN a;obtain⟨rfl,rfl⟩:=bG j;rw [if_pos rfl] at a
  obtain⟨rfl,rfl⟩:=dX a;have f:k.ns.length≤100000:=by simp only [RS.put,ak5,ak_] at D;omega
  have B:(c.next l == [61,61])=false:=by simpa using u
  have H:(c.next l == [33,61])=false:=by simpa using c1
  have K:(c.next l == [60])=false:=by simpa using c2
  have M:(c.next l == [60,61])=false:=by simpa using c3
  have U:(c.next l == [62])=false:=by simpa using c4
  have V:(c.next l == [62,61])=true:=by rw [c5];rfl
  have d:=O r2;have r:=O c5;clear a r2 j c5;go_wp2_with fail;refine (sH l y m (C m (by omega)) g tv iv _ _ _ _ 16 (hd A) b k d.o f (by rw [r.o];simp) v.o).mono ?_;rintro e J⟨rfl,F,E,h,i⟩;have q:=O h;have t:=O (x.o.trans i);clear h i;go_wp2_with fail;go_ret;exact⟨rfl,_,_,q.o,t.o⟩
 rw [show iJ .cmp (c.next l)=0 by simp [iJ,u,c1,c2,c3,c4,c5],if_pos rfl] at a
 have B:(c.next l == [61,61])=false:=by simpa using u
 have H:(c.next l == [33,61])=false:=by simpa using c1
 have K:(c.next l == [60])=false:=by simpa using c2
 have M:(c.next l == [60,61])=false:=by simpa using c3
 have U:(c.next l == [62])=false:=by simpa using c4
 have V:(c.next l == [62,61])=false:=by simpa using c5
 obtain⟨rfl,rfl⟩:=dX a;clear a;go_wp2_with fail;go_ret;exact⟨rfl,_,_,v.o,x.o⟩
theorem ag7 (l:List Tok)(x:l.length≤1000)(n:Nat)(C:QC 194 l n (.lv .not))(D:QC 206 l n (.lv .cmp)):QC 194 l (n+1) (.lv .not):=by
 intro g tv iv w s xs nv U V c G h;have k:=O h;have u:=O (Mw.refl (g:=g) (w:=w) (xs:=xs) (nv:=nv));have L:=h.le;clear h;rw [bH] at c
 by_cases i:s.next l=[110,111,116]
 ·rw [if_pos i] at c
  obtain⟨b,M,r2,c⟩:=aN c;obtain⟨rfl,rfl⟩:=bG c;have B:M.ns.length≤100000:=by simp only [RS.put,ak5,ak_] at G;omega
  have j:=(dM (l:=l) (s:=s) (by rw [i];simp)).2;have J:(s.next l == [110,111,116])=true:=by rw [i];rfl
  have y:=O r2;clear c r2 i;go_enter Tryz.func194,Tryz.ntmps194
  go_wp2_with fail;refine (dh g tv l iv _ _ _ _ k.o x).mono ?_;rintro e w1⟨rfl,a⟩;have f:=O (k.o.below a);have q:=O (u.o.aU a);clear a k u;go_wp2_with fail;refine (aX g tv l iv _ _ _ _ f.o x).mono ?_;rintro e N⟨rfl,a⟩;have d:=O (f.o.below a);have r:=O (q.o.aU a);clear a f q;have j:=j;have c1:=d.o.blk.cell 1;have K:=d.o.blk.frozen 1;have t:=O (d.o.dU j);have v:=O (r.o.jU d.o.sP);clear d r;go_wp2_with fail;clear c1 K;go_wp2_with fail;refine (C g tv iv _ _ _ _ _ _ y.o B t.o).mono ?_;rintro e X⟨rfl,P,Q,h,m⟩;have E:=O h;have A:=O (v.o.trans m);clear h m t v;go_wp2_with fail;refine (dZ g tv l iv _ _ _ _ 5 _ [] 0 _ [hd b] (E.o.alloc _) (ku _ [hd b]) (by omega)).mono ?_;rintro e Y⟨rfl,S,h,m⟩;have F:=O h;have I:=O (A.o.dK.gy F.o m (lZ A.o.size));clear h m E A;go_wp2_with fail;go_ret;exact⟨rfl,_,_,F.o,I.o⟩
 ·rw [if_neg i] at c
  have J:(s.next l == [110,111,116])=false:=by simpa using i
  have H:=O c;clear c i;go_enter Tryz.func194,Tryz.ntmps194
  go_wp2_with fail;refine (dh g tv l iv _ _ _ _ k.o x).mono ?_;rintro e w1⟨rfl,a⟩;have f:=O (k.o.below a);have q:=O (u.o.aU a);clear a k u;go_wp2_with fail;refine (aX g tv l iv _ _ _ _ f.o x).mono ?_;rintro e N⟨rfl,a⟩;have d:=O (f.o.below a);have r:=O (q.o.aU a);clear a f q;go_wp2_with fail;refine (D g tv iv _ _ _ _ _ _ H.o G d.o).mono ?_;rintro e W⟨rfl,T,R,h,m⟩;have t:=O h;have v:=O (r.o.trans m);clear h m d r;go_wp2_with fail;go_ret;exact⟨rfl,_,_,t.o,v.o⟩
theorem ac0 (l:List Tok)(x:l.length≤1000)(n:Nat)(C:QC 197 l n (.lv .unary))(D:QC 207 l n .post):QC 197 l (n+1) (.lv .unary):=by
 intro g tv iv w s xs nv U V c G h;have k:=O h;have u:=O (Mw.refl (g:=g) (w:=w) (xs:=xs) (nv:=nv));have L:=h.le;clear h;rw [bH] at c
 by_cases i:s.next l=[45]
 ·rw [if_pos i] at c
  obtain⟨b,M,r2,c⟩:=aN c;obtain⟨rfl,rfl⟩:=bG c;have B:M.ns.length≤100000:=by simp only [RS.put,ak5,ak_] at G;omega
  have j:=(dM (l:=l) (s:=s) (by rw [i];simp)).2;have J:(s.next l == [45])=true:=by rw [i];rfl
  have y:=O r2;clear c r2 i;go_enter Tryz.func197,Tryz.ntmps197
  go_wp2_with fail;refine (dh g tv l iv _ _ _ _ k.o x).mono ?_;rintro e w1⟨rfl,a⟩;have f:=O (k.o.below a);have q:=O (u.o.aU a);clear a k u;go_wp2_with fail;refine (aX g tv l iv _ _ _ _ f.o x).mono ?_;rintro e N⟨rfl,a⟩;have d:=O (f.o.below a);have r:=O (q.o.aU a);clear a f q;have j:=j;have c1:=d.o.blk.cell 1;have K:=d.o.blk.frozen 1;have t:=O (d.o.dU j);have v:=O (r.o.jU d.o.sP);clear d r;go_wp2_with fail;clear c1 K;go_wp2_with fail;refine (C g tv iv _ _ _ _ _ _ y.o B t.o).mono ?_;rintro e X⟨rfl,P,Q,h,m⟩;have E:=O h;have A:=O (v.o.trans m);clear h m t v;go_wp2_with fail;refine (dZ g tv l iv _ _ _ _ 4 _ [] 0 _ [hd b] (E.o.alloc _) (ku _ [hd b]) (by omega)).mono ?_;rintro e Y⟨rfl,S,h,m⟩;have F:=O h;have I:=O (A.o.dK.gy F.o m (lZ A.o.size));clear h m E A;go_wp2_with fail;go_ret;exact⟨rfl,_,_,F.o,I.o⟩
 ·rw [if_neg i] at c
  have J:(s.next l == [45])=false:=by simpa using i
  have H:=O c;clear c i;go_enter Tryz.func197,Tryz.ntmps197
  go_wp2_with fail;refine (dh g tv l iv _ _ _ _ k.o x).mono ?_;rintro e w1⟨rfl,a⟩;have f:=O (k.o.below a);have q:=O (u.o.aU a);clear a k u;go_wp2_with fail;refine (aX g tv l iv _ _ _ _ f.o x).mono ?_;rintro e N⟨rfl,a⟩;have d:=O (f.o.below a);have r:=O (q.o.aU a);clear a f q;go_wp2_with fail;refine (D g tv iv _ _ _ _ _ _ H.o G d.o).mono ?_;rintro e W⟨rfl,T,R,h,m⟩;have t:=O h;have v:=O (r.o.trans m);clear h m d r;go_wp2_with fail;go_ret;exact⟨rfl,_,_,t.o,v.o⟩
theorem afo (l:List Tok)(q:l.length≤1000)(n:Nat)(C:QC 120 l n .expr)(D:QC 148 l n (.lv .or)):QC 120 l (n+1) .expr:=by
 intro g tv iv w s xs nv qs s' f X h;have r:=O h;have G:=O (Mw.refl (g:=g) (w:=w) (xs:=xs) (nv:=nv));have hle:=h.le;clear h;rw [bH] at f
 by_cases t:s.next l=[105,102]
 ·rw [if_pos t] at f
  obtain⟨a,t1,r1,f⟩:=aN f;obtain⟨b,t2,r2,f⟩:=aN f;obtain⟨c,t3,r3,f⟩:=aN f;obtain⟨rfl,rfl⟩:=bG f;have W:t3.ns.length≤100000:=by simp only [RS.put,ak5,ak_] at X;omega
  have hb2:=Nat.le_trans ((To.refl (s:=t2)).take (l:=l) (x:=[101,108,115,101]) (by simp)).few (bQ _ _ _ _ _ r3).few;have V:=Nat.le_trans ((To.refl (s:=t1)).take (l:=l) (x:=[116,104,101,110]) (by simp)).few (bQ _ _ _ _ _ r2).few;have i:=(dM (l:=l) (s:=s) (by rw [t];simp)).2;have e0:(s.next l == [105,102])=true:=by rw [t];rfl
  have A:=O r1;have B:=O r2;have S:=O r3;clear f r1 r2 r3 t;go_enter Tryz.func120,Tryz.ntmps120
  go_wp2_with fail;refine (dh g tv l iv _ _ _ _ r.o q).mono ?_;rintro e w1⟨rfl,d⟩;have k:=O (r.o.below d);have u:=O (G.o.aU d);clear d r G;go_wp2_with fail;refine (aX g tv l iv _ _ _ _ k.o q).mono ?_;rintro e w2⟨rfl,d⟩;have j:=O (k.o.below d);have v:=O (u.o.aU d);clear d k u;have i:=i;have c1:=j.o.blk.cell 1;have U:=j.o.blk.frozen 1;have y:=O (j.o.dU i);have E:=O (v.o.jU j.o.sP);clear j v;go_wp2_with fail;clear c1 U;go_wp2_with fail;refine (C g tv iv _ _ _ _ _ _ A.o (by omega) y.o).mono ?_;rintro e w4⟨rfl,xs4,F9,h,m⟩;have H:=O h;have N:=O (E.o.trans m);clear h m y E;go_wp2_with fail;refine (eT g tv l iv _ _ _ _ [116,104,101,110] (by simp) H.o q).mono ?_;rintro e w5⟨rfl,h,m⟩;have I:=O h;have P:=O (N.o.jU m);clear h m H N;go_wp2_with fail;refine (C g tv iv _ _ _ _ _ _ B.o (by omega) I.o).mono ?_;rintro e w6⟨rfl,xs6,Y,h,m⟩;have J:=O h;have Q:=O (P.o.trans m);clear h m I P;go_wp2_with fail;refine (eT g tv l iv _ _ _ _ [101,108,115,101] (by simp) J.o q).mono ?_;rintro e w7⟨rfl,h,m⟩;have K:=O h;have R:=O (Q.o.jU m);clear h m J Q;go_wp2_with fail;refine (C g tv iv _ _ _ _ _ _ S.o (by omega) K.o).mono ?_;rintro e w8⟨rfl,xs8,U7,h,m⟩;have L:=O h;have F:=O (R.o.trans m);clear h m K R;go_wp2_with fail;refine (dZ g tv l iv _ _ _ _ 19 _ [] 0 _ [hd a,hd b,hd c] (L.o.alloc _) (ku _ [hd a,hd b,hd c]) (by omega)).mono ?_;rintro e w9⟨rfl,Z,h,m⟩;have M:=O h;have T:=O (F.o.dK.gy M.o m (lZ F.o.size));clear h m L F;go_wp2_with fail;go_ret;exact⟨rfl,_,_,M.o,T.o⟩
 rw [if_neg t] at f
 by_cases c1:s.next l=[108,101,116]
 ·rw [if_pos c1] at f
  obtain⟨a,t1,r1,f⟩:=aN f;obtain⟨b,t2,r2,f⟩:=aN f;obtain⟨rfl,rfl⟩:=bG f;have W:t2.ns.length≤100000:=by simp only [RS.put,ak5,ak_] at X;omega
  have V:=Nat.le_trans ((To.refl (s:=t1)).take (l:=l) (x:=[105,110]) (by simp)).few (bQ _ _ _ _ _ r2).few;have i:=(dM (l:=l) (s:=s) (by rw [c1];simp)).2;have e0:(s.next l == [105,102])=false:=by simpa using t
  have e1:(s.next l == [108,101,116])=true:=by rw [c1];rfl
  have A:=O r1;have B:=O r2;clear f r1 r2 t c1;go_enter Tryz.func120,Tryz.ntmps120
  go_wp2_with fail;refine (dh g tv l iv _ _ _ _ r.o q).mono ?_;rintro e w1⟨rfl,d⟩;have k:=O (r.o.below d);have u:=O (G.o.aU d);clear d r G;go_wp2_with fail;refine (aX g tv l iv _ _ _ _ k.o q).mono ?_;rintro e w2⟨rfl,d⟩;have j:=O (k.o.below d);have v:=O (u.o.aU d);clear d k u;have i:=i;have c1:=j.o.blk.cell 1;have U:=j.o.blk.frozen 1;have y:=O (j.o.dU i);have E:=O (v.o.jU j.o.sP);clear j v;go_wp2_with fail;clear c1 U;go_wp2_with fail;refine (iF g tv l iv _ _ _ _ 1 (by simp) (by simp) y.o q).mono ?_;rintro e w4⟨rfl,h,m⟩;have H:=O h;have N:=O (E.o.jU m);clear h m y E;go_wp2_with fail;refine (eT g tv l iv _ _ _ _ [61] (by simp) H.o q).mono ?_;rintro e w5⟨rfl,h,m⟩;have I:=O h;have P:=O (N.o.jU m);clear h m H N;go_wp2_with fail;refine (C g tv iv _ _ _ _ _ _ A.o (by omega) I.o).mono ?_;rintro e w6⟨rfl,xs6,Y,h,m⟩;have J:=O h;have Q:=O (P.o.trans m);clear h m I P;go_wp2_with fail;refine (eT g tv l iv _ _ _ _ [105,110] (by simp) J.o q).mono ?_;rintro e w7⟨rfl,h,m⟩;have K:=O h;have R:=O (Q.o.jU m);clear h m J Q;go_wp2_with fail;refine (C g tv iv _ _ _ _ _ _ B.o (by omega) K.o).mono ?_;rintro e w8⟨rfl,xs8,U7,h,m⟩;have L:=O h;have F:=O (R.o.trans m);clear h m K R;go_wp2_with fail;refine (dZ g tv l iv _ _ _ _ 20 _ _ 0 _ [hd a,hd b] (L.o.alloc _) (ku _ [hd a,hd b]) (by omega)).mono ?_;rintro e w9⟨rfl,Z,h,m⟩;have M:=O h;have T:=O (F.o.dK.gy M.o m (lZ F.o.size));clear h m L F;go_wp2_with fail;go_ret;exact⟨rfl,_,_,M.o,T.o⟩
 rw [if_neg c1] at f
 have e0:(s.next l == [105,102])=false:=by simpa using t
 have e1:(s.next l == [108,101,116])=false:=by simpa using c1
 have HR:=O f;clear f t c1;go_enter Tryz.func120,Tryz.ntmps120
 go_wp2_with fail;refine (dh g tv l iv _ _ _ _ r.o q).mono ?_;rintro e w1⟨rfl,d⟩;have k:=O (r.o.below d);have u:=O (G.o.aU d);clear d r G;go_wp2_with fail;refine (aX g tv l iv _ _ _ _ k.o q).mono ?_;rintro e w2⟨rfl,d⟩;have j:=O (k.o.below d);have v:=O (u.o.aU d);clear d k u;go_wp2_with fail;refine (D g tv iv _ _ _ _ _ _ HR.o X j.o).mono ?_;rintro e w3⟨rfl,WG,Km,h,m⟩;have y:=O h;have E:=O (v.o.trans m);clear h m j v;go_wp2_with fail;go_ret;exact⟨rfl,_,_,y.o,E.o⟩
theorem afr (l:List Tok)(F:l.length≤1000)(n:Nat)(C:QC 213 l n .atom)(D:∀ m,m≤n→QC 120 l m .expr):QC 207 l (n+1) .post:=by
 intro g tv iv w s xs nv qs s' c hn h;have j:=O h;have B:=O (Mw.refl (g:=g) (w:=w) (xs:=xs) (nv:=nv));have hle:=h.le;clear h;rw [bH] at c
 obtain⟨a1,t1,r1,c⟩:=aN c;have hb1:=(bQ _ _ _ _ _ c).few;have A:=O c;have AY:=O r1;clear c r1;go_enter Tryz.func207,Tryz.ntmps207
 go_wp2_with fail;refine (C g tv iv _ _ _ _ _ _ AY.o (by omega) j.o).mono ?_;rintro e w1⟨rfl,y,P,h,m⟩;have H1:=O h;have M1:=O (B.o.trans m);clear h m j B;go_wp2_with fail;go_loopw [3,4,5] (fun v _ _ wr=>∃ (m:Nat) (a:Int) (f:RS) (y:List NV) (P:Value),v=.int .i64 a∧m≤n∧Hid (bH l m (.jq a) f=some (qs,s'))∧Hid (QS g tv l iv wr f y P)∧Hid (Mw g w xs nv wr y P)) (fun _ _ _ wr=>WS l g wr)
 case atStart=>exact⟨n,hd a1,t1,y,P,rfl,ak0 _,A,H1,M1⟩
 case round =>
  clear A AY H1 M1;obtain⟨wo,rfl⟩:∃ wo:World,wo=wr:=⟨_,rfl⟩;obtain⟨m,a,f,y,P,rfl,hm,A,j,B⟩:=hrel;have HW:=j;have c:=A.o;clear A;rcases m with _ | m
  ·exact absurd c (by simp [bH])
  rw [bH] at c
  by_cases E:f.next l=[46]
  ·rw [if_pos E] at c
   obtain⟨b3,t3,Q,c⟩:=aN c;obtain⟨rfl,rfl⟩:=bG Q;have t:=(bQ _ _ _ _ _ c).few;have X:(f.dU.word l 1).2.ns.length≤100000:=by simp only [RS.put,ak5,ak_] at t;omega
   have I:=(dM (l:=l) (s:=f) (by rw [E];simp)).2;have Y:f.k+1≤(f.dU.word l 1).2.k:=(To.refl.word (s:=f.dU) (by simp)).k;have e0:(f.next l == [46])=true:=by rw [E];rfl
   have A:=O c;clear c Q E t;go_wp2_with fail;refine (dh g tv l iv _ _ _ _ j.o F).mono ?_;rintro e AX⟨rfl,d⟩;have u:=O (j.o.below d);have i:=O (B.o.aU d);clear d j B;go_wp2_with fail;refine (aX g tv l iv _ _ _ _ u.o F).mono ?_;rintro e tC⟨rfl,d⟩;have q:=O (u.o.below d);have J:=O (i.o.aU d);clear d u i;have H:=I;have c1:=q.o.blk.cell 1;have W:=q.o.blk.frozen 1;have R:=O (q.o.dU H);have M:=O (J.o.jU q.o.sP);clear q J;go_wp2_with fail;clear c1 W;go_wp2_with fail;refine (iF g tv l iv _ _ _ _ 1 (by simp) (by simp) R.o F).mono ?_;rintro e Rm⟨rfl,h,m⟩;have N:=O h;have K:=O (M.o.jU m);clear h m R M;go_wp2_with fail;refine (dZ g tv l iv _ _ _ _ 22 _ _ 0 _ [a] (N.o.alloc _) (ku _ [a]) (by omega)).mono ?_;rintro e Gm⟨rfl,U,h,m⟩;have L:=O h;have r:=O (K.o.dK.gy L.o m (lZ K.o.size));clear h m N K;go_wp2_with fail;exact⟨⟨m,_,_,_,U,rfl,by omega,A,L,r⟩,by rw [iB L.o,iB HW.o];simp only [RS.put];omega⟩
  rw [if_neg E] at c
  by_cases c1:f.next l=[91]
  ·rw [if_pos c1] at c
   obtain⟨b,Z,r2,c⟩:=aN c;obtain⟨b3,t3,Q,c⟩:=aN c;obtain⟨rfl,rfl⟩:=bG Q;have t:=(bQ _ _ _ _ _ c).few;have X:(Z.take l [93]).ns.length≤100000:=by simp only [RS.put,ak5,ak_] at t;omega
   have hb4:=((To.refl (s:=Z)).take (l:=l) (x:=[93]) (by simp)).few;have I:=(dM (l:=l) (s:=f) (by rw [c1];simp)).2;have Y:f.k+1≤(Z.take l [93]).k:=(((To.refl (s:=f.dU)).trans (bQ _ _ _ _ _ r2)).take (by simp)).k;have e0:(f.next l == [46])=false:=by simpa using E
   have e1:(f.next l == [91])=true:=by rw [c1];rfl
   have A:=O c;have S:=O r2;clear c r2 Q E c1 t;go_wp2_with fail;refine (dh g tv l iv _ _ _ _ j.o F).mono ?_;rintro e AX⟨rfl,d⟩;have u:=O (j.o.below d);have i:=O (B.o.aU d);clear d j B;go_wp2_with fail;refine (aX g tv l iv _ _ _ _ u.o F).mono ?_;rintro e tC⟨rfl,d⟩;have q:=O (u.o.below d);have J:=O (i.o.aU d);clear d u i;have H:=I;have c1:=q.o.blk.cell 1;have W:=q.o.blk.frozen 1;have R:=O (q.o.dU H);have M:=O (J.o.jU q.o.sP);clear q J;go_wp2_with fail;clear c1 W;go_wp2_with fail;refine (D m (by omega) g tv iv _ _ _ _ _ _ S.o (by omega) R.o).mono ?_;rintro e Rm⟨rfl,akN,agR,h,m⟩;have N:=O h;have K:=O (M.o.trans m);clear h m R M;go_wp2_with fail;refine (eT g tv l iv _ _ _ _ [93] (by simp) N.o F).mono ?_;rintro e Gm⟨rfl,h,m⟩;have L:=O h;have r:=O (K.o.jU m);clear h m N K;go_wp2_with fail;refine (dZ g tv l iv _ _ _ _ 23 _ [] 0 _ [a,hd b] (L.o.alloc _) (ku _ [a,hd b]) (by omega)).mono ?_;rintro e w16⟨rfl,V,h,m⟩;have G:=O h;have T:=O (r.o.dK.gy G.o m (lZ r.o.size));clear h m L r;go_wp2_with fail;exact⟨⟨m,_,_,_,V,rfl,by omega,A,G,T⟩,by rw [iB G.o,iB HW.o];simp only [RS.put];omega⟩
  rw [if_neg c1] at c
  have e0:(f.next l == [46])=false:=by simpa using E
  have e1:(f.next l == [91])=false:=by simpa using c1
  obtain⟨rfl,rfl⟩:=dX c;clear c E c1;go_wp2_with fail;refine (dh g tv l iv _ _ _ _ j.o F).mono ?_;rintro e AX⟨rfl,d⟩;have u:=O (j.o.below d);have i:=O (B.o.aU d);clear d j B;go_wp2_with fail;refine (aX g tv l iv _ _ _ _ u.o F).mono ?_;rintro e tC⟨rfl,d⟩;have q:=O (u.o.below d);have J:=O (i.o.aU d);clear d u i;go_wp2_with fail;go_ret;exact⟨rfl,_,_,q.o,J.o⟩
