/-
  A part of the proof.
-/
import Derived.Test.YtajfdjikimiapaaGreatDoorS27
set_option linter.all false
set_option maxRecDepth 100000
set_option maxHeartbeats 40000000
set_option linter.all false
namespace Go.Proofs.YtajfdjikimiapaaGreatDoor
section
open Go.RowKit Mist
attribute [local go_sem] au aN aV aM aG
theorem jr {q w:World}{A h:Option Addr}{n i f:Nat}(c m d:Nat){xs:List NV}{a:List Int}{x:NV}(B:lJ q A h xs a)(E:xs.length=n)(e:xs[i]? = some x)(X:BX q A h n c m d i ⟨aj xs,a⟩ (ah ⟨aj xs,a⟩ f) x.1)(r:Below q.heap.size q w) :
  ∃ b o k kc l,A=some ⟨b,o,none⟩∧w.cell? ⟨b,o+i * 5,none⟩=some (.int .u8 x.1.kind)∧w.cell? ⟨b,o+i * 5+1,none⟩=some (.string (aU x.1.text))∧w.cell? ⟨b,o+i * 5+2,none⟩=some (.int .i64 x.1.n)∧w.cell? ⟨b,o+i * 5+3,none⟩=some (.slice k l kc)∧w.cell? ⟨b,o+i * 5+4,none⟩=some (.int .i64 x.1.at_)∧b < w.heap.size∧(0:Int)≤(i:Int)∧(i:Int) < (n:Int) ∧
   Hid (nd (⟨aj xs,a⟩:Tr) i=x.1)∧Hid (l=x.1.kids.length)∧Hid (∀ j,j < l→(bM ⟨aj xs,a⟩ (ah ⟨aj xs,a⟩ f) i j).length≤1000000)∧Hid ((dD ⟨aj xs,a⟩ (ah ⟨aj xs,a⟩ f) i l).length≤1000000) ∧
   Hid (BW w q ((w.alloc (.cells #[.slice A n c,.slice h m d] 25)).alloc (.cells #[.int .u8 (x.1.kind:Int),.string (aU x.1.text),.int .i64 x.1.n,.slice k l kc,.int .i64 x.1.at_] 39)) #[.slice A n c,.slice h m d] k l kc x.1):=by
 have hi:i < n:=by rw [← E];exact (aiq.1 e).1
 obtain⟨b,o,y,g⟩:=(B.below r).nodes (by omega);subst y;obtain⟨k,kc,t,D,C⟩:=g.kid e;have u:Below w.heap.size w ((w.alloc (.cells #[.slice (some ⟨b,o,none⟩) n c,.slice h m d] 25)).alloc (.cells #[.int .u8 (x.1.kind:Int),.string (aU x.1.text),.int .i64 x.1.n,.slice k x.1.kids.length kc,.int .i64 x.1.at_] 39)):=((Below.refl w.heap.size w).alloc (aiv _) (.cells #[.slice (some ⟨b,o,none⟩) n c,.slice h m d] 25)).alloc (by simp) _;exact⟨b,o,k,kc,_,rfl,g.c0 i x e,g.c1 i x e,g.c2 i x e,by rw [g.c3 i x e,t],g.c4 i x e,g.lt,by omega,by omega,O (aY a e),O rfl,O X.len,O (X.lens _ (aiv _)),O ⟨u,r.trans (u.mono r.size),(aZ.new w _ _).alloc _,Jv (by simp)⟩⟩
theorem hlo {l:List Pz}(k:Nat)(h:l.length≤1000000):l.length≤10000000:=by omega
theorem aaf {u w:World}{A D:Option Addr}{n c m d i f:Nat}{xs:List NV}{a:List Int}{x:NV}(F:lJ u A D xs a)(H:xs.length=n)(J:xs[i]? = some x)(X:BX u A D n c m d i ⟨aj xs,a⟩ (ah ⟨aj xs,a⟩ f) x.1)(I:Below u.heap.size u w)(e:x.1.kind=3∨x.1.kind=32∨x.1.kind=5∧x.1.kids.length=1∨x.1.kind=30∨x.1.kind=31):Calls Tryz.prog 42 #[.agg #[.slice A n c,.slice D m d],.int .i64 (i:Nat)] w (BR (aW ⟨aj xs,a⟩ (ah ⟨aj xs,a⟩ f) i) w):=by
 obtain⟨b,o,Q,kc,y,rfl,k0,R,S,U,V,M,W,Y,r,E,K,P,h⟩:=jr c m d F H J X I;have L:=O X;rw [← E.o] at e
 clear F H J X I;rcases e with e | e | ⟨e,G⟩ | e | e
 have j:=O (BS (T:=⟨aj xs,a⟩) (B:=ah ⟨aj xs,a⟩ f) (i:=i) (by rw [r.o];exact e));rw [r.o] at j
 rw [e] at k0 h
 clear e;have q:=O (aix y);go_in
 go_upto_region 12 with (fail)
 have l:=O (h.o);refine eU 239 rfl (by kernel_rfl) (out:=?o0) ?r0 ?f0
 case r0 =>
  simp only [List.map_cons,List.map_nil];refine .cons (lN rfl rfl (rF _ _ (by decide))) ?_;refine .cons (d_ rfl rfl l.o.l1) ?_;refine .cons (ss [x.1.text] rfl ⟨rfl,rfl⟩ (by decide) rfl) ?_;refine .cons (stt rfl rfl rfl) ?_;refine .cons (fM (.inr rfl)) ?_;exact .nil
 intro fv C k g;have t:=O (kJ.re (k 4 (by decide)) (show _=(aW ⟨aj xs,a⟩ (ah ⟨aj xs,a⟩ f) i).map bt by rw [j.o];simp [bt,dK,tz,lz,aH]));rotate_left;have j:=O (xP (T:=⟨aj xs,a⟩) (B:=ah ⟨aj xs,a⟩ f) (i:=i) (by rw [r.o];exact e));rw [r.o] at j
 rw [e] at k0 h
 clear e;have q:=O (aix y);go_in
 go_upto_region 12 with (fail)
 have l:=O (h.o);refine eU 239 rfl (by kernel_rfl) (out:=?o1) ?r1 ?f1
 case r1 =>
  simp only [List.map_cons,List.map_nil];refine .cons (lN rfl rfl (rF _ _ (by decide))) ?_;refine .cons (d_ rfl rfl l.o.l1) ?_;refine .cons (ss [x.1.text] rfl ⟨rfl,rfl⟩ (by decide) rfl) ?_;refine .cons (stt rfl rfl rfl) ?_;refine .cons (fM (.inr rfl)) ?_;exact .nil
 intro fv C k g;have t:=O (kJ.re (k 4 (by decide)) (show _=(aW ⟨aj xs,a⟩ (ah ⟨aj xs,a⟩ f) i).map bt by rw [j.o];simp [bt,dK,tz,lz,aH]));rotate_left;have j:=O (BZ (T:=⟨aj xs,a⟩) (B:=ah ⟨aj xs,a⟩ f) (i:=i) (by rw [r.o];exact e));rw [e] at k0 h
 clear e;have q:=O G;clear G;go_in
 go_upto_region 19 with (fail)
 have l:=O (h.o.below (Below.refl _ _).drew);refine dx 239 (by kernel_rfl) rfl (by kernel_rfl) (out:=?o2) ?r2 ?f2
 case r2 =>
  simp only [List.map_cons,List.map_nil];refine .cons (ss [[110,111,116]] rfl ⟨rfl,rfl⟩ (by decide) rfl) ?_;refine .cons (stt rfl rfl rfl) ?_;refine .cons (d_ rfl rfl l.o.lT) ?_;refine .cons (dL (.v (.int .i64 (i:Nat))) (.inl rfl) rfl) ?_;refine .cons (o7 rfl rfl rfl rfl (by decide) (L.o.kids _ (by have:=E.o;have:=q.o;simp;omega)) l.o.b0) ?_;refine .cons (sF rfl rfl (hlo 0 (by first|(simp;done) | exact K.o _ (by have:=q.o;simp;omega)))) ?_;refine .cons (sr [[dK [110,111,116]],aH true (bM ⟨aj xs,a⟩ (ah ⟨aj xs,a⟩ f) i 0)] rfl ⟨rfl,rfl⟩ (by decide) rfl) ?_;refine .cons (yI rfl rfl rfl (by have:=K.o 0 (by have:=q.o;omega);simp [ak];omega)) ?_;refine .cons (fM (.inr rfl)) ?_;exact .nil
 intro fv C k g;have t:=O (kJ.re (k 8 (by decide)) (show _=(aW ⟨aj xs,a⟩ (ah ⟨aj xs,a⟩ f) i).map bt by rw [j.o];simp [bt,dK,tz,lz,aH]));rotate_left;have j:=O (xM (T:=⟨aj xs,a⟩) (B:=ah ⟨aj xs,a⟩ f) (i:=i) (by rw [r.o];exact e));rw [e] at k0 h
 clear e;have q:=O (aix y);go_in
 go_upto_region 38 with (fail)
 have l:=O (h.o);refine eU 239 rfl (by kernel_rfl) (out:=?o3) ?r3 ?f3
 case r3 =>
  simp only [List.map_cons,List.map_nil];refine .cons (ss [[105,110,116]] rfl ⟨rfl,rfl⟩ (by decide) rfl) ?_;refine .cons (stt rfl rfl rfl) ?_;refine .cons (fM (.inr rfl)) ?_;exact .nil
 intro fv C k g;have t:=O (kJ.re (k 2 (by decide)) (show _=(aW ⟨aj xs,a⟩ (ah ⟨aj xs,a⟩ f) i).map bt by rw [j.o];simp [bt,dK,tz,lz,aH]));rotate_left;have j:=O (xO (T:=⟨aj xs,a⟩) (B:=ah ⟨aj xs,a⟩ f) (i:=i) (by rw [r.o];exact e));rw [e] at k0 h
 clear e;have q:=O (aix y);go_in
 go_upto_region 40 with (fail)
 have l:=O (h.o);refine eU 239 rfl (by kernel_rfl) (out:=?o4) ?r4 ?f4
 case r4 =>
  simp only [List.map_cons,List.map_nil];refine .cons (ss [[98,111,111,108]] rfl ⟨rfl,rfl⟩ (by decide) rfl) ?_;refine .cons (stt rfl rfl rfl) ?_;refine .cons (fM (.inr rfl)) ?_;exact .nil
 intro fv C k g;have t:=O (kJ.re (k 2 (by decide)) (show _=(aW ⟨aj xs,a⟩ (ah ⟨aj xs,a⟩ f) i).map bt by rw [j.o];simp [bt,dK,tz,lz,aH]));rotate_left
 all_goals
  have N:=O (h.o.b.trans (g.mono h.o.b.size));simp only [List.map_cons,List.map_nil,jC,Act.put,ail,ain,aio];clear k g;go_wp2_with fail;go_ret;exact⟨_,rfl,t.o,N.o⟩
theorem P6 {u w:World}{A D:Option Addr}{n c m d i f:Nat}{xs:List NV}{a:List Int}{x:NV}(G:lJ u A D xs a)(H:xs.length=n)(J:xs[i]? = some x)(X:BX u A D n c m d i ⟨aj xs,a⟩ (ah ⟨aj xs,a⟩ f) x.1)(I:Below u.heap.size u w)(j:x.1.kind=19∧x.1.kids.length=3∨x.1.kind=20∧x.1.kids.length=2):Calls Tryz.prog 42 #[.agg #[.slice A n c,.slice D m d],.int .i64 (i:Nat)] w (BR (aW ⟨aj xs,a⟩ (ah ⟨aj xs,a⟩ f) i) w):=by
 obtain⟨b,o,P,kc,V,rfl,k0,Q,R,S,U,K,W,Y,E,q,g,N,l⟩:=jr c m d G H J X I;have r:=O X;rw [← q.o] at j
 clear G H J X I;rcases j with ⟨j,t⟩ | ⟨j,t⟩
 have C:=O (xD (T:=⟨aj xs,a⟩) (B:=ah ⟨aj xs,a⟩ f) (i:=i) (by rw [E.o];exact j));rw [j] at k0 l
 clear j;have e:=O t;clear t;go_in
 go_upto_region 21 with (fail)
 have h:=O (l.o.below (Below.refl _ _).drew);refine dx 239 (by kernel_rfl) rfl (by kernel_rfl) (out:=?o0) ?r0 ?f0
 case r0 =>
  simp only [List.map_cons,List.map_nil];refine .cons (ss [[105,102]] rfl ⟨rfl,rfl⟩ (by decide) rfl) ?_;refine .cons (stt rfl rfl rfl) ?_;refine .cons (d_ rfl rfl h.o.lT) ?_;refine .cons (dL (.v (.int .i64 (i:Nat))) (.inl rfl) rfl) ?_;refine .cons (o7 rfl rfl rfl rfl (by decide) (r.o.kids _ (by have:=q.o;have:=e.o;simp;omega)) h.o.b0) ?_;refine .cons (sF rfl rfl (hlo 0 (by first|(simp;done) | exact g.o _ (by have:=e.o;simp;omega)))) ?_;refine .cons (ss [[116,104,101,110]] rfl ⟨rfl,rfl⟩ (by decide) rfl) ?_;refine .cons (stt rfl rfl rfl) ?_;refine .cons (sF rfl rfl (hlo 0 (by first|(simp;done) | exact g.o _ (by have:=e.o;simp;omega)))) ?_;refine .cons (d_ rfl rfl h.o.lT) ?_;refine .cons (dL (.v (.int .i64 (i:Nat))) (.inl rfl) rfl) ?_;refine .cons (o7 rfl rfl rfl rfl (by decide) (r.o.kids _ (by have:=q.o;have:=e.o;simp;omega)) h.o.b0) ?_;refine .cons (sF rfl rfl (hlo 0 (by first|(simp;done) | exact g.o _ (by have:=e.o;simp;omega)))) ?_;refine .cons (ss [[101,108,115,101]] rfl ⟨rfl,rfl⟩ (by decide) rfl) ?_;refine .cons (stt rfl rfl rfl) ?_;refine .cons (sF rfl rfl (hlo 0 (by first|(simp;done) | exact g.o _ (by have:=e.o;simp;omega)))) ?_;refine .cons (d_ rfl rfl h.o.lT) ?_;refine .cons (dL (.v (.int .i64 (i:Nat))) (.inl rfl) rfl) ?_;refine .cons (o7 rfl rfl rfl rfl (by decide) (r.o.kids _ (by have:=q.o;have:=e.o;simp;omega)) h.o.b0) ?_;refine .cons (sF rfl rfl (hlo 0 (by first|(simp;done) | exact g.o _ (by have:=e.o;simp;omega)))) ?_;refine .cons (sr [[dK [105,102]],aH true (bM ⟨aj xs,a⟩ (ah ⟨aj xs,a⟩ f) i 0),aH true ([dK [116,104,101,110]]),aH true (bM ⟨aj xs,a⟩ (ah ⟨aj xs,a⟩ f) i 1),aH true ([dK [101,108,115,101]]),aH true (bM ⟨aj xs,a⟩ (ah ⟨aj xs,a⟩ f) i 2)] rfl ⟨rfl,rfl⟩ (by decide) rfl) ?_;refine .cons (yI rfl rfl rfl (by have:=g.o 0 (by have:=e.o;omega);have:=g.o 1 (by have:=e.o;omega);have:=g.o 2 (by have:=e.o;omega);simp [ak];omega)) ?_;refine .cons (fM (.inr rfl)) ?_;exact .nil
 intro fv M y k;have F:=O (kJ.re (y 22 (by decide)) (show _=(aW ⟨aj xs,a⟩ (ah ⟨aj xs,a⟩ f) i).map bt by rw [C.o];simp [bt,dK,tz,lz,aH]));rotate_left;have C:=O (xE (T:=⟨aj xs,a⟩) (B:=ah ⟨aj xs,a⟩ f) (i:=i) (by rw [E.o];exact j));rw [E.o] at C
 rw [j] at k0 l
 clear j;have e:=O t;clear t;go_in
 go_upto_region 23 with (fail)
 have h:=O (l.o.below (Below.refl _ _).drew);refine dx 239 (by kernel_rfl) rfl (by kernel_rfl) (out:=?o1) ?r1 ?f1
 case r1 =>
  simp only [List.map_cons,List.map_nil];refine .cons (ss [[108,101,116]] rfl ⟨rfl,rfl⟩ (by decide) rfl) ?_;refine .cons (stt rfl rfl rfl) ?_;refine .cons (lN rfl rfl (rF _ _ (by decide))) ?_;refine .cons (d_ rfl rfl h.o.l1) ?_;refine .cons (ss [x.1.text] rfl ⟨rfl,rfl⟩ (by decide) rfl) ?_;refine .cons (stt rfl rfl rfl) ?_;refine .cons (sF rfl rfl (hlo 0 (by first|(simp;done) | exact g.o _ (by have:=e.o;simp;omega)))) ?_;refine .cons (ss [[61]] rfl ⟨rfl,rfl⟩ (by decide) rfl) ?_;refine .cons (stt rfl rfl rfl) ?_;refine .cons (sF rfl rfl (hlo 0 (by first|(simp;done) | exact g.o _ (by have:=e.o;simp;omega)))) ?_;refine .cons (d_ rfl rfl h.o.lT) ?_;refine .cons (dL (.v (.int .i64 (i:Nat))) (.inl rfl) rfl) ?_;refine .cons (o7 rfl rfl rfl rfl (by decide) (r.o.kids _ (by have:=q.o;have:=e.o;simp;omega)) h.o.b0) ?_;refine .cons (sF rfl rfl (hlo 0 (by first|(simp;done) | exact g.o _ (by have:=e.o;simp;omega)))) ?_;refine .cons (ss [[105,110]] rfl ⟨rfl,rfl⟩ (by decide) rfl) ?_;refine .cons (stt rfl rfl rfl) ?_;refine .cons (sF rfl rfl (hlo 0 (by first|(simp;done) | exact g.o _ (by have:=e.o;simp;omega)))) ?_;refine .cons (d_ rfl rfl h.o.lT) ?_;refine .cons (dL (.v (.int .i64 (i:Nat))) (.inl rfl) rfl) ?_;refine .cons (o7 rfl rfl rfl rfl (by decide) (r.o.kids _ (by have:=q.o;have:=e.o;simp;omega)) h.o.b0) ?_;refine .cons (sF rfl rfl (hlo 0 (by first|(simp;done) | exact g.o _ (by have:=e.o;simp;omega)))) ?_;refine .cons (sr [[dK [108,101,116]],aH true ([dK x.1.text]),aH true ([dK [61]]),aH true (bM ⟨aj xs,a⟩ (ah ⟨aj xs,a⟩ f) i 0),aH true ([dK [105,110]]),aH true (bM ⟨aj xs,a⟩ (ah ⟨aj xs,a⟩ f) i 1)] rfl ⟨rfl,rfl⟩ (by decide) rfl) ?_;refine .cons (yI rfl rfl rfl (by have:=g.o 0 (by have:=e.o;omega);have:=g.o 1 (by have:=e.o;omega);simp [ak];omega)) ?_;refine .cons (fM (.inr rfl)) ?_;exact .nil
 intro fv M y k;have F:=O (kJ.re (y 23 (by decide)) (show _=(aW ⟨aj xs,a⟩ (ah ⟨aj xs,a⟩ f) i).map bt by rw [C.o];simp [bt,dK,tz,lz,aH]));rotate_left
 all_goals
  have L:=O (l.o.b.trans (k.mono l.o.b.size));simp only [List.map_cons,List.map_nil,jC,Act.put,ail,ain,aio];clear y k;go_wp2_with fail;go_ret;exact⟨_,rfl,F.o,L.o⟩
theorem aag {y w:World}{A C:Option Addr}{n c m d i f:Nat}{xs:List NV}{a:List Int}{x:NV}(G:lJ y A C xs a)(H:xs.length=n)(J:xs[i]? = some x)(X:BX y A C n c m d i ⟨aj xs,a⟩ (ah ⟨aj xs,a⟩ f) x.1)(I:Below y.heap.size y w)(e:x.1.kind=21∨x.1.kind=24∨x.1.kind=26):Calls Tryz.prog 42 #[.agg #[.slice A n c,.slice C m d],.int .i64 (i:Nat)] w (BR (aW ⟨aj xs,a⟩ (ah ⟨aj xs,a⟩ f) i) w):=by
 obtain⟨b,o,N,kc,g,rfl,k0,Q,R,S,U,L,V,W,u,j,P,D,l⟩:=jr c m d G H J X I;have r:=O X;clear G H J X I;rcases e with e | e | e
 have q:=O (xG (T:=⟨aj xs,a⟩) (B:=ah ⟨aj xs,a⟩ f) (i:=i) (by rw [u.o];exact e));rw [u.o,← j.o] at q
 rw [e] at k0 l
 clear e;have F:=O (aix g);go_in
 go_upto_region 25 with (fail)
 have h:=O (l.o.below (Below.refl _ _).drew);refine dx 239 (by kernel_rfl) rfl (by kernel_rfl) (out:=?o0) ?r0 ?f0
 case r0 =>
  simp only [List.map_cons,List.map_nil];refine .cons (lN rfl rfl (rF _ _ (by decide))) ?_;refine .cons (d_ rfl rfl h.o.l1) ?_;refine .cons (ss [x.1.text,[40]] rfl ⟨rfl,rfl⟩ (by decide) rfl) ?_;refine .cons (stt rfl rfl rfl) ?_;refine .cons (d_ rfl rfl h.o.lT) ?_;refine .cons (dL (.v (.int .i64 (i:Nat))) (.inl rfl) rfl) ?_;refine .cons (dL (.v (.int .i64 (g:Nat))) (.inl rfl) rfl) ?_;refine .cons (O_ rfl rfl rfl rfl rfl (r.o.many _ (by have:=j.o;omega)) h.o.b0) ?_;refine .cons (ss [[41]] rfl ⟨rfl,rfl⟩ (by decide) rfl) ?_;refine .cons (stt rfl rfl rfl) ?_;refine .cons (sr [[dK x.1.text,dK [40]],dD ⟨aj xs,a⟩ (ah ⟨aj xs,a⟩ f) i g,[dK [41]]] rfl ⟨rfl,rfl⟩ (by decide) rfl) ?_;refine .cons (yI rfl rfl rfl (by have:=D.o;simp [ak];omega)) ?_;refine .cons (fM (.inr rfl)) ?_;exact .nil
 intro fv K t k;have E:=O (kJ.re (t 12 (by decide)) (show _=(aW ⟨aj xs,a⟩ (ah ⟨aj xs,a⟩ f) i).map bt by rw [q.o,r.o.Ei g (by rw [j.o];exact aiv _)];simp [bt,dK,tz,lz,aH]));rotate_left;have q:=O (xJ (T:=⟨aj xs,a⟩) (B:=ah ⟨aj xs,a⟩ f) (i:=i) (by rw [u.o];exact e));rw [u.o,← j.o] at q
 rw [e] at k0 l
 clear e;have F:=O (aix g);go_in
 go_upto_region 31 with (fail)
 have h:=O (l.o.below (Below.refl _ _).drew);refine dx 239 (by kernel_rfl) rfl (by kernel_rfl) (out:=?o1) ?r1 ?f1
 case r1 =>
  simp only [List.map_cons,List.map_nil];refine .cons (lN rfl rfl (rF _ _ (by decide))) ?_;refine .cons (d_ rfl rfl h.o.l1) ?_;refine .cons (ss [x.1.text,[123]] rfl ⟨rfl,rfl⟩ (by decide) rfl) ?_;refine .cons (stt rfl rfl rfl) ?_;refine .cons (d_ rfl rfl h.o.lT) ?_;refine .cons (dL (.v (.int .i64 (i:Nat))) (.inl rfl) rfl) ?_;refine .cons (dL (.v (.int .i64 (g:Nat))) (.inl rfl) rfl) ?_;refine .cons (O_ rfl rfl rfl rfl rfl (r.o.many _ (by have:=j.o;omega)) h.o.b0) ?_;refine .cons (ss [[125]] rfl ⟨rfl,rfl⟩ (by decide) rfl) ?_;refine .cons (stt rfl rfl rfl) ?_;refine .cons (sr [[dK x.1.text,dK [123]],dD ⟨aj xs,a⟩ (ah ⟨aj xs,a⟩ f) i g,[dK [125]]] rfl ⟨rfl,rfl⟩ (by decide) rfl) ?_;refine .cons (yI rfl rfl rfl (by have:=D.o;simp [ak];omega)) ?_;refine .cons (fM (.inr rfl)) ?_;exact .nil
 intro fv K t k;have E:=O (kJ.re (t 12 (by decide)) (show _=(aW ⟨aj xs,a⟩ (ah ⟨aj xs,a⟩ f) i).map bt by rw [q.o,r.o.Ei g (by rw [j.o];exact aiv _)];simp [bt,dK,tz,lz,aH]));rotate_left;have q:=O (xL (T:=⟨aj xs,a⟩) (B:=ah ⟨aj xs,a⟩ f) (i:=i) (by rw [u.o];exact e));rw [u.o,← j.o] at q
 rw [e] at k0 l
 clear e;have F:=O (aix g);go_in
 go_upto_region 36 with (fail)
 have h:=O (l.o.below (Below.refl _ _).drew);refine dx 239 (by kernel_rfl) rfl (by kernel_rfl) (out:=?o2) ?r2 ?f2
 case r2 =>
  simp only [List.map_cons,List.map_nil];refine .cons (ss [[91]] rfl ⟨rfl,rfl⟩ (by decide) rfl) ?_;refine .cons (stt rfl rfl rfl) ?_;refine .cons (d_ rfl rfl h.o.lT) ?_;refine .cons (dL (.v (.int .i64 (i:Nat))) (.inl rfl) rfl) ?_;refine .cons (dL (.v (.int .i64 (g:Nat))) (.inl rfl) rfl) ?_;refine .cons (O_ rfl rfl rfl rfl rfl (r.o.many _ (by have:=j.o;omega)) h.o.b0) ?_;refine .cons (ss [[93]] rfl ⟨rfl,rfl⟩ (by decide) rfl) ?_;refine .cons (stt rfl rfl rfl) ?_;refine .cons (sr [[dK [91]],dD ⟨aj xs,a⟩ (ah ⟨aj xs,a⟩ f) i g,[dK [93]]] rfl ⟨rfl,rfl⟩ (by decide) rfl) ?_;refine .cons (yI rfl rfl rfl (by have:=D.o;simp [ak];omega)) ?_;refine .cons (fM (.inr rfl)) ?_;exact .nil
 intro fv K t k;have E:=O (kJ.re (t 10 (by decide)) (show _=(aW ⟨aj xs,a⟩ (ah ⟨aj xs,a⟩ f) i).map bt by rw [q.o,r.o.Ei g (by rw [j.o];exact aiv _)];simp [bt,dK,tz,lz,aH]));rotate_left
 all_goals
  have M:=O (l.o.b.trans (k.mono l.o.b.size));simp only [List.map_cons,List.map_nil,jC,Act.put,ail,ain,aio];clear t k;go_wp2_with fail;go_ret;exact⟨_,rfl,E.o,M.o⟩
theorem BI {E w:World}{A F:Option Addr}{n c m d i f:Nat}{xs:List NV}{a:List Int}{x:NV}(H:lJ E A F xs a)(I:xs.length=n)(K:xs[i]? = some x)(X:BX E A F n c m d i ⟨aj xs,a⟩ (ah ⟨aj xs,a⟩ f) x.1)(J:Below E.heap.size E w)(e:x.1.kind=22∧x.1.kids.length=1∨x.1.kind=23∧x.1.kids.length=2∨x.1.kind=25∧x.1.kids.length=1∨x.1.kind=34∧x.1.kids.length=1):Calls Tryz.prog 42 #[.agg #[.slice A n c,.slice F m d],.int .i64 (i:Nat)] w (BR (aW ⟨aj xs,a⟩ (ah ⟨aj xs,a⟩ f) i) w):=by
 obtain⟨b,o,P,kc,V,rfl,k0,Q,R,S,U,L,W,Y,y,t,u,N,l⟩:=jr c m d H I K X J;have C:=O X;rw [← t.o] at e
 clear H I K X J;rcases e with ⟨e,k⟩ | ⟨e,k⟩ | ⟨e,k⟩ | ⟨e,k⟩
 have q:=O (xH (T:=⟨aj xs,a⟩) (B:=ah ⟨aj xs,a⟩ f) (i:=i) (by rw [y.o];exact e));rw [y.o] at q
 rw [e] at k0 l
 clear e;have h:=O k;clear k;go_in
 go_upto_region 27 with (fail)
 have g:=O (l.o.below (Below.refl _ _).drew);refine dx 239 (by kernel_rfl) rfl (by kernel_rfl) (out:=?o0) ?r0 ?f0
 case r0 =>
  simp only [List.map_cons,List.map_nil];refine .cons (d_ rfl rfl g.o.lT) ?_;refine .cons (dL (.v (.int .i64 (i:Nat))) (.inl rfl) rfl) ?_;refine .cons (o7 rfl rfl rfl rfl (by decide) (C.o.kids _ (by have:=t.o;have:=h.o;simp;omega)) g.o.b0) ?_;refine .cons (lN rfl rfl (rF _ _ (by decide))) ?_;refine .cons (d_ rfl rfl g.o.l1) ?_;refine .cons (ss [[46],x.1.text] rfl ⟨rfl,rfl⟩ (by decide) rfl) ?_;refine .cons (stt rfl rfl rfl) ?_;refine .cons (sr [bM ⟨aj xs,a⟩ (ah ⟨aj xs,a⟩ f) i 0,[dK [46],dK x.1.text]] rfl ⟨rfl,rfl⟩ (by decide) rfl) ?_;refine .cons (yI rfl rfl rfl (by have:=u.o 0 (by have:=h.o;omega);simp [ak];omega)) ?_;refine .cons (fM (.inr rfl)) ?_;exact .nil
 intro fv G r j;have D:=O (kJ.re (r 9 (by decide)) (show _=(aW ⟨aj xs,a⟩ (ah ⟨aj xs,a⟩ f) i).map bt by rw [q.o];simp [bt,dK,tz,lz,aH]));rotate_left;have q:=O (xI (T:=⟨aj xs,a⟩) (B:=ah ⟨aj xs,a⟩ f) (i:=i) (by rw [y.o];exact e));rw [e] at k0 l
 clear e;have h:=O k;clear k;go_in
 go_upto_region 29 with (fail)
 have g:=O (l.o.below (Below.refl _ _).drew);refine dx 239 (by kernel_rfl) rfl (by kernel_rfl) (out:=?o1) ?r1 ?f1
 case r1 =>
  simp only [List.map_cons,List.map_nil];refine .cons (d_ rfl rfl g.o.lT) ?_;refine .cons (dL (.v (.int .i64 (i:Nat))) (.inl rfl) rfl) ?_;refine .cons (o7 rfl rfl rfl rfl (by decide) (C.o.kids _ (by have:=t.o;have:=h.o;simp;omega)) g.o.b0) ?_;refine .cons (ss [[91]] rfl ⟨rfl,rfl⟩ (by decide) rfl) ?_;refine .cons (stt rfl rfl rfl) ?_;refine .cons (d_ rfl rfl g.o.lT) ?_;refine .cons (dL (.v (.int .i64 (i:Nat))) (.inl rfl) rfl) ?_;refine .cons (o7 rfl rfl rfl rfl (by decide) (C.o.kids _ (by have:=t.o;have:=h.o;simp;omega)) g.o.b0) ?_;refine .cons (ss [[93]] rfl ⟨rfl,rfl⟩ (by decide) rfl) ?_;refine .cons (stt rfl rfl rfl) ?_;refine .cons (sr [bM ⟨aj xs,a⟩ (ah ⟨aj xs,a⟩ f) i 0,[dK [91]],bM ⟨aj xs,a⟩ (ah ⟨aj xs,a⟩ f) i 1,[dK [93]]] rfl ⟨rfl,rfl⟩ (by decide) rfl) ?_;refine .cons (yI rfl rfl rfl (by have:=u.o 0 (by have:=h.o;omega);have:=u.o 1 (by have:=h.o;omega);simp [ak];omega)) ?_;refine .cons (fM (.inr rfl)) ?_;exact .nil
 intro fv G r j;have D:=O (kJ.re (r 12 (by decide)) (show _=(aW ⟨aj xs,a⟩ (ah ⟨aj xs,a⟩ f) i).map bt by rw [q.o,C.o.tight 1 (by have:=h.o;have:=t.o;omega)];simp [bt,dK,tz,lz,aH]));rotate_left;have q:=O (xK (T:=⟨aj xs,a⟩) (B:=ah ⟨aj xs,a⟩ f) (i:=i) (by rw [y.o];exact e));rw [y.o] at q
 rw [e] at k0 l
 clear e;have h:=O k;clear k;go_in
 go_upto_region 34 with (fail)
 have g:=O (l.o.below (Below.refl _ _).drew);refine dx 239 (by kernel_rfl) rfl (by kernel_rfl) (out:=?o2) ?r2 ?f2
 case r2 =>
  simp only [List.map_cons,List.map_nil];refine .cons (lN rfl rfl (rF _ _ (by decide))) ?_;refine .cons (d_ rfl rfl g.o.l1) ?_;refine .cons (ss [x.1.text,[58]] rfl ⟨rfl,rfl⟩ (by decide) rfl) ?_;refine .cons (stt rfl rfl rfl) ?_;refine .cons (d_ rfl rfl g.o.lT) ?_;refine .cons (dL (.v (.int .i64 (i:Nat))) (.inl rfl) rfl) ?_;refine .cons (o7 rfl rfl rfl rfl (by decide) (C.o.kids _ (by have:=t.o;have:=h.o;simp;omega)) g.o.b0) ?_;refine .cons (sF rfl rfl (hlo 0 (by first|(simp;done) | exact u.o _ (by have:=h.o;simp;omega)))) ?_;refine .cons (sr [[dK x.1.text,dK [58]],aH true (bM ⟨aj xs,a⟩ (ah ⟨aj xs,a⟩ f) i 0)] rfl ⟨rfl,rfl⟩ (by decide) rfl) ?_;refine .cons (yI rfl rfl rfl (by have:=u.o 0 (by have:=h.o;omega);simp [ak];omega)) ?_;refine .cons (fM (.inr rfl)) ?_;exact .nil
 intro fv G r j;have D:=O (kJ.re (r 10 (by decide)) (show _=(aW ⟨aj xs,a⟩ (ah ⟨aj xs,a⟩ f) i).map bt by rw [q.o];simp [bt,dK,tz,lz,aH]));rotate_left;have q:=O (xR (T:=⟨aj xs,a⟩) (B:=ah ⟨aj xs,a⟩ f) (i:=i) (by rw [y.o];exact e));rw [y.o] at q
 rw [e] at k0 l
 clear e;have h:=O k;clear k;go_in
 go_upto_region 34 with (fail)
 have g:=O (l.o.below (Below.refl _ _).drew);refine dx 239 (by kernel_rfl) rfl (by kernel_rfl) (out:=?o3) ?r3 ?f3
 case r3 =>
  simp only [List.map_cons,List.map_nil];refine .cons (lN rfl rfl (rF _ _ (by decide))) ?_;refine .cons (d_ rfl rfl g.o.l1) ?_;refine .cons (ss [x.1.text,[58]] rfl ⟨rfl,rfl⟩ (by decide) rfl) ?_;refine .cons (stt rfl rfl rfl) ?_;refine .cons (d_ rfl rfl g.o.lT) ?_;refine .cons (dL (.v (.int .i64 (i:Nat))) (.inl rfl) rfl) ?_;refine .cons (o7 rfl rfl rfl rfl (by decide) (C.o.kids _ (by have:=t.o;have:=h.o;simp;omega)) g.o.b0) ?_;refine .cons (sF rfl rfl (hlo 0 (by first|(simp;done) | exact u.o _ (by have:=h.o;simp;omega)))) ?_;refine .cons (sr [[dK x.1.text,dK [58]],aH true (bM ⟨aj xs,a⟩ (ah ⟨aj xs,a⟩ f) i 0)] rfl ⟨rfl,rfl⟩ (by decide) rfl) ?_;refine .cons (yI rfl rfl rfl (by have:=u.o 0 (by have:=h.o;omega);simp [ak];omega)) ?_;refine .cons (fM (.inr rfl)) ?_;exact .nil
 intro fv G r j;have D:=O (kJ.re (r 10 (by decide)) (show _=(aW ⟨aj xs,a⟩ (ah ⟨aj xs,a⟩ f) i).map bt by rw [q.o];simp [bt,dK,tz,lz,aH]));rotate_left
 all_goals
  have M:=O (l.o.b.trans (j.mono l.o.b.size));simp only [List.map_cons,List.map_nil,jC,Act.put,ail,ain,aio];clear r j;go_wp2_with fail;go_ret;exact⟨_,rfl,D.o,M.o⟩
end
set_option linter.all false
section
open Go.RowKit Mist
attribute [local go_sem] au aN aV aM aG
theorem Wo {g w:World}{A j:Option Addr}{n c m d i f:Nat}{xs:List NV}{a:List Int}{x:NV}(l:lJ g A j xs a)(t:xs.length=n)(y:xs[i]? = some x)(X:BX g A j n c m d i ⟨aj xs,a⟩ (ah ⟨aj xs,a⟩ f) x.1)(u:Below g.heap.size g w)(k:x.1.kind=1)(I:-9999≤x.1.n∧x.1.n≤9999):Calls Tryz.prog 42 #[.agg #[.slice A n c,.slice j m d],.int .i64 (i:Nat)] w (BR (aW ⟨aj xs,a⟩ (ah ⟨aj xs,a⟩ f) i) w):=by
 obtain⟨b,o,L,kc,U,rfl,k0,P,Q,R,S,G,W,Y,D,M,N,J,h⟩:=jr c m d l t y X u;have K:=O X;clear l t y X u;have C:=O (uq (T:=⟨aj xs,a⟩) (B:=ah ⟨aj xs,a⟩ f) (i:=i) (by rw [D.o];exact k));rw [D.o] at C
 rw [k] at k0 h
 clear k;go_in
 go_upto_region 5 with (fail)
 have F:=O h.o;refine eU 239 rfl (by kernel_rfl) (out:=?o) ?r ?f
 case r =>
  simp only [List.map_cons,List.map_nil];refine .cons (lN rfl rfl (rF _ _ (by decide))) ?_;refine .cons (d_ rfl rfl F.o.l2) ?_;refine .cons (sti rfl rfl I) ?_;refine .cons (fM (.inr rfl)) ?_;exact .nil
 case f =>
  intro fv V q e;have E:=O (kJ.re (q 3 (by decide)) (show _=(aW ⟨aj xs,a⟩ (ah ⟨aj xs,a⟩ f) i).map bt by rw [C.o];unfold gI;split <;> simp [bt,tz]));have H:=O (h.o.b.trans (e.mono h.o.b.size));simp only [List.map_cons,List.map_nil,jC,Act.put,ail,ain,aio];clear q e;go_wp2_with fail;go_ret;exact⟨_,rfl,E.o,H.o⟩
theorem Rp {k w:World}{A l:Option Addr}{n c m d i f:Nat}{xs:List NV}{a:List Int}{x:NV}(u:lJ k A l xs a)(y:xs.length=n)(D:xs[i]? = some x)(X:BX k A l n c m d i ⟨aj xs,a⟩ (ah ⟨aj xs,a⟩ f) x.1)(C:Below k.heap.size k w)(r:x.1.kind=2):Calls Tryz.prog 42 #[.agg #[.slice A n c,.slice l m d],.int .i64 (i:Nat)] w (BR (aW ⟨aj xs,a⟩ (ah ⟨aj xs,a⟩ f) i) w):=by
 obtain⟨b,o,L,kc,U,rfl,k0,P,Q,R,S,G,V,W,E,M,N,J,g⟩:=jr c m d u y D X C;have K:=O X;clear u y D X C;have j:=O (BQ (T:=⟨aj xs,a⟩) (B:=ah ⟨aj xs,a⟩ f) (i:=i) (by rw [E.o];exact r));rw [E.o] at j
 rw [r] at k0 g
 clear r;by_cases h1:x.1.n=1
 ·have I:(x.1.n == 1)=true:=by simp [h1]
  rw [if_pos h1] at j
  clear h1;go_in
  go_upto_region 8 with (fail)
  have F:=O g.o;refine eU 239 rfl (by kernel_rfl) (out:=?o0) ?r0 ?f0
  case r0 =>
   simp only [List.map_cons,List.map_nil];refine .cons (ss [[116,114,117,101]] rfl ⟨rfl,rfl⟩ (by decide) rfl) ?_;refine .cons (stt rfl rfl rfl) ?_;refine .cons (fM (.inr rfl)) ?_;exact .nil
  case f0 =>
   intro fv H h e;have q:=O (kJ.re (h 2 (by decide)) (show _=(aW ⟨aj xs,a⟩ (ah ⟨aj xs,a⟩ f) i).map bt by rw [j.o];simp [bt,dK,tz,lz,aH]));have t:=O (g.o.b.trans (e.mono g.o.b.size));simp only [List.map_cons,List.map_nil,jC,Act.put,ail,ain,aio];clear h e;go_wp2_with fail;go_ret;exact⟨_,rfl,q.o,t.o⟩
 ·have I:(x.1.n == 1)=false:=by simp [h1]
  rw [if_neg h1] at j
  clear h1;go_in
  go_upto_region 9 with (fail)
  have F:=O g.o;refine eU 239 rfl (by kernel_rfl) (out:=?o1) ?r1 ?f1
  case r1 =>
   simp only [List.map_cons,List.map_nil];refine .cons (ss [[102,97,108,115,101]] rfl ⟨rfl,rfl⟩ (by decide) rfl) ?_;refine .cons (stt rfl rfl rfl) ?_;refine .cons (fM (.inr rfl)) ?_;exact .nil
  case f1 =>
   intro fv H h e;have q:=O (kJ.re (h 2 (by decide)) (show _=(aW ⟨aj xs,a⟩ (ah ⟨aj xs,a⟩ f) i).map bt by rw [j.o];simp [bt,dK,tz,lz,aH]));have t:=O (g.o.b.trans (e.mono g.o.b.size));simp only [List.map_cons,List.map_nil,jC,Act.put,ail,ain,aio];clear h e;go_wp2_with fail;go_ret;exact⟨_,rfl,q.o,t.o⟩
theorem aah {q w:World}{A h:Option Addr}{n c m d i f:Nat}{xs:List NV}{a:List Int}{x:NV}(D:lJ q A h xs a)(G:xs.length=n)(I:xs[i]? = some x)(X:BX q A h n c m d i ⟨aj xs,a⟩ (ah ⟨aj xs,a⟩ f) x.1)(H:Below q.heap.size q w)(e:(6≤x.1.kind∧x.1.kind≤18)∧x.1.kids.length=2):Calls Tryz.prog 42 #[.agg #[.slice A n c,.slice h m d],.int .i64 (i:Nat)] w (BR (aW ⟨aj xs,a⟩ (ah ⟨aj xs,a⟩ f) i) w):=by
 obtain⟨b,o,Q,kc,W,rfl,k0,R,S,U,V,M,Z,y1,K,y,t,P,r⟩:=jr c m d D G I X H;have C:=O X;rw [← y.o] at e
 clear D G I X H;obtain⟨l,F⟩:=e;have J:=O (yc (T:=⟨aj xs,a⟩) (B:=ah ⟨aj xs,a⟩ f) (i:=i) (by rw [K.o];omega));rw [K.o] at J
 have g:=O F;have u:=O l;clear F;rcases (by omega:x.1.kind=6∨x.1.kind=7∨x.1.kind=8∨x.1.kind=9∨x.1.kind=10∨x.1.kind=11∨x.1.kind=12∨x.1.kind=13∨x.1.kind=14∨x.1.kind=15∨x.1.kind=16∨x.1.kind=17∨x.1.kind=18) with e | e | e | e | e | e | e | e | e | e | e | e | e
 all_goals
  clear l;rw [e] at k0 r
  clear e;go_in
  go_upto_region 45 with (fail)
  have j:=O (r.o.below (Below.refl _ _).drew);refine dx 239 (by kernel_rfl) rfl (by kernel_rfl) (out:=[.v (.agg #[.slice (some ⟨b,o,none⟩) n c,.slice h m d]),.v (.int .i64 (i:Nat)),.bits (bM ⟨aj xs,a⟩ (ah ⟨aj xs,a⟩ f) i 0),.v (.pointer (some ⟨w.heap.size+1,0,none⟩)),.v (.int .u8 (x.1.kind:Int)),.v (.string (aU (mQ x.1.kind))),.strs [mQ x.1.kind],.bits ([mQ x.1.kind].map dK),.bits (aH true ([mQ x.1.kind].map dK)),.v (.agg #[.slice (some ⟨b,o,none⟩) n c,.slice h m d]),.v (.int .i64 (i:Nat)),.bits (bM ⟨aj xs,a⟩ (ah ⟨aj xs,a⟩ f) i 1),.bits (aH true (bM ⟨aj xs,a⟩ (ah ⟨aj xs,a⟩ f) i 1)),.rows [bM ⟨aj xs,a⟩ (ah ⟨aj xs,a⟩ f) i 0,aH true ([dK (mQ x.1.kind)]),aH true (bM ⟨aj xs,a⟩ (ah ⟨aj xs,a⟩ f) i 1)],.bits ([bM ⟨aj xs,a⟩ (ah ⟨aj xs,a⟩ f) i 0,aH true ([dK (mQ x.1.kind)]),aH true (bM ⟨aj xs,a⟩ (ah ⟨aj xs,a⟩ f) i 1)].flatten),.bits ([bM ⟨aj xs,a⟩ (ah ⟨aj xs,a⟩ f) i 0,aH true ([dK (mQ x.1.kind)]),aH true (bM ⟨aj xs,a⟩ (ah ⟨aj xs,a⟩ f) i 1)].flatten)]) ?_ ?_
  ·simp only [List.map_cons,List.map_nil];refine .cons (d_ rfl rfl j.o.lT) ?_;refine .cons (dL (.v (.int .i64 (i:Nat))) (.inl rfl) rfl) ?_;refine .cons (o7 rfl rfl rfl rfl (by decide) (C.o.kids _ (by have:=y.o;have:=g.o;simp;omega)) j.o.b0) ?_;refine .cons (lN rfl rfl (rF _ _ (by decide))) ?_;refine .cons (d_ rfl rfl j.o.l0) ?_;refine .cons (agS rfl rfl u.o) ?_;refine .cons (ss [mQ x.1.kind] rfl ⟨rfl,rfl⟩ (by decide) rfl) ?_;refine .cons (stt rfl rfl rfl) ?_;refine .cons (sF rfl rfl (hlo 0 (by first|(simp;done) | exact t.o _ (by have:=g.o;simp;omega)))) ?_;refine .cons (d_ rfl rfl j.o.lT) ?_;refine .cons (dL (.v (.int .i64 (i:Nat))) (.inl rfl) rfl) ?_;refine .cons (o7 rfl rfl rfl rfl (by decide) (C.o.kids _ (by have:=y.o;have:=g.o;simp;omega)) j.o.b0) ?_;refine .cons (sF rfl rfl (hlo 0 (by first|(simp;done) | exact t.o _ (by have:=g.o;simp;omega)))) ?_;refine .cons (sr [bM ⟨aj xs,a⟩ (ah ⟨aj xs,a⟩ f) i 0,aH true ([dK (mQ x.1.kind)]),aH true (bM ⟨aj xs,a⟩ (ah ⟨aj xs,a⟩ f) i 1)] rfl ⟨rfl,rfl⟩ (by decide) rfl) ?_;refine .cons (yI rfl rfl rfl (by have:=t.o 0 (by have:=g.o;omega);have:=t.o 1 (by have:=g.o;omega);simp [ak];omega)) ?_;refine .cons (fM (.inr rfl)) ?_;exact .nil
  ·intro fv Y E k;have L:=O (kJ.re (E 15 (by decide)) (show _=(aW ⟨aj xs,a⟩ (ah ⟨aj xs,a⟩ f) i).map bt by rw [J.o];simp [bt,dK,tz,lz,aH]));have N:=O (r.o.b.trans (k.mono r.o.b.size));simp only [List.map_cons,List.map_nil,jC,Act.put,ail,ain,aio];clear E k;go_wp2_with fail;go_ret;exact⟨_,rfl,L.o,N.o⟩
theorem Wn {P w:World}{A V:Option Addr}{n c m d i f:Nat}{xs:List NV}{a:List Int}{x:NV}(hT:lJ P A V xs a)(hn:xs.length=n)(hx:xs[i]? = some x)(X:BX P A V n c m d i ⟨aj xs,a⟩ (ah ⟨aj xs,a⟩ f) x.1)(hw:Below P.heap.size P w)(D:x.1.kind=4∧x.1.kids.length=1):Calls Tryz.prog 42 #[.agg #[.slice A n c,.slice V m d],.int .i64 (i:Nat)] w (BR (aW ⟨aj xs,a⟩ (ah ⟨aj xs,a⟩ f) i) w):=by
 obtain⟨b,o,Ka,kc,nk,rfl,k0,k1,k2,k3,k4,hbl,y0,y1,mg,S,jT,Ck,dF⟩:=jr c m d hT hn hx X hw;have Z:=O X;rw [← S.o] at D
 clear hT hn hx X hw;obtain⟨D,hl⟩:=D;have jl:=O (BU (T:=⟨aj xs,a⟩) (B:=ah ⟨aj xs,a⟩ f) (i:=i) (by rw [mg.o];exact D));rw [D] at k0 dF
 have R:=O hl;clear hl D;go_in
 go_upto_region 14 with (fail)
 have H:=O dF.o;refine eU 239 rfl (by kernel_rfl) (out:=?o) ?r ?f
 case r =>
  simp only [List.map_cons,List.map_nil];refine .cons (d_ rfl rfl H.o.lT) ?_;refine .cons (dL (.v (.int .i64 (i:Nat))) (.inl rfl) rfl) ?_;refine .cons (o7 rfl rfl rfl rfl (by decide) (Z.o.kids _ (by have:=S.o;have:=R.o;simp;omega)) H.o.b0) ?_;refine .cons (fM (.inr rfl)) ?_;exact .nil
 case f =>
  intro fv U j g;obtain⟨A9,c9,e9,N⟩:kJ (.bits (bM ⟨aj xs,a⟩ (ah ⟨aj xs,a⟩ f) i 0)) (fv 3) U:=j 3 (by decide);have k:=O (dF.o.below g);have u:=Z.o.ne 0 (by have:=R.o;have:=S.o;omega);have C:=Z.o.tight 0 (by have:=R.o;have:=S.o;omega);have K:=jT.o 0 (by have:=R.o;omega);simp only [List.map_cons,List.map_nil,jC,Act.put,ail,ain,aio,e9]
  generalize bM ⟨aj xs,a⟩ (ah ⟨aj xs,a⟩ f) i 0=L at N jl u C K ⊢
  obtain⟨p,r,rfl⟩:∃ p r,L=p :: r:=by cases L with | nil=>exact absurd rfl u | cons p r=>exact⟨p,r,rfl⟩
  obtain⟨b9,o9,rfl,hl9,J⟩:=N.ex (by simp);have c0:=J 0 (.string (aU p.text)) rfl;rw [Nat.add_zero] at c0
  have M:(0:Int) < ((p :: r).length:Nat):=by simp <;> omega
  obtain⟨q9,y⟩:∃ q,q=(p :: r).length:=⟨_,rfl⟩;rw [← y] at M K ⊢
  have Q:=O (show aW ⟨aj xs,a⟩ (ah ⟨aj xs,a⟩ f) i=tz [45] (i:Int) :: aH (decide (p.text=[45])) (p :: r) from jl.o);have F:=O (show jI U (some ⟨b9,o9,none⟩) (p :: r) from N);have G:=O y;have Y:=O C;clear j g e9 N J jl u y C H;by_cases E:p.text=[45]
  ·have z1:(p.text == [45])=true:=by simp [E]
   have t:=O (show aW ⟨aj xs,a⟩ (ah ⟨aj xs,a⟩ f) i=tz [45] (i:Int) :: aH true (p :: r) from by rw [Q.o,aiG E]);clear E Q;go_upto_region 16 with (fail)
   go_wp2_with fail;refine (Qm (l:=p :: r) (by rw [← G.o];omega) ⟨_,_,by rw [← G.o],F.o⟩).mono ?_;rintro e w5⟨v5,rfl,⟨A5,c5,rfl,JU⟩,I⟩;have b_:=O (k.o.below I);clear I;go_upto_region 17 with (fail)
   have H:=O b_.o
   have h:([[dK [45]],aH true (p :: r)].flatten).length≤10000000:=by
    have h9:=G.o;simp [ak] at h9 ⊢
    omega
   refine eU 239 rfl (by kernel_rfl) (out:=?o1) ?r1 ?f1
   case r1 =>
    simp only [List.map_cons,List.map_nil];refine .cons (ss [[45]] rfl ⟨rfl,rfl⟩ (by decide) rfl) ?_;refine .cons (stt rfl rfl rfl) ?_;refine .cons (nN (.inl rfl) rfl rfl JU) ?_;refine .cons (sr [[dK [45]],aH true (p :: r)] rfl ⟨rfl,rfl⟩ (by decide) rfl) ?_;refine .cons (yI rfl rfl rfl h) ?_;refine .cons (fM (.inr rfl)) ?_;exact .nil
   case f1 =>
    intro fv U j g;have W:=O (kJ.re (j 5 (by decide)) (show _=(aW ⟨aj xs,a⟩ (ah ⟨aj xs,a⟩ f) i).map bt by rw [t.o];simp [bt,dK,tz,lz,aH]));have k:=O (b_.o.b.trans (g.mono b_.o.b.size));simp only [List.map_cons,List.map_nil,jC,Act.put,ail,ain,aio];clear j g;go_wp2_with fail;go_ret;exact⟨_,rfl,W.o,k.o⟩
  ·have z1:(p.text == [45])=false:=by simp [E]
   have t:=O (show aW ⟨aj xs,a⟩ (ah ⟨aj xs,a⟩ f) i=tz [45] (i:Int) :: (p :: r) from by rw [Q.o,aiH E,Y.o]);clear E Q;go_upto_region 17 with (fail)
   have H:=O k.o
   have h:([[dK [45]],p :: r].flatten).length≤10000000:=by
    have h9:=G.o;simp at h9 ⊢
    omega
   refine eU 239 rfl (by kernel_rfl) (out:=?o2) ?r2 ?f2
   case r2 =>
    simp only [List.map_cons,List.map_nil];refine .cons (ss [[45]] rfl ⟨rfl,rfl⟩ (by decide) rfl) ?_;refine .cons (stt rfl rfl rfl) ?_;refine .cons (nN (.inl rfl) rfl G.o F.o) ?_;refine .cons (sr [[dK [45]],p :: r] rfl ⟨rfl,rfl⟩ (by decide) rfl) ?_;refine .cons (yI rfl rfl rfl h) ?_;refine .cons (fM (.inr rfl)) ?_;exact .nil
   case f2 =>
    intro fv U j g;have W:=O (kJ.re (j 5 (by decide)) (show _=(aW ⟨aj xs,a⟩ (ah ⟨aj xs,a⟩ f) i).map bt by rw [t.o];simp [bt,dK,tz,lz,aH]));have k:=O (k.o.b.trans (g.mono k.o.b.size));simp only [List.map_cons,List.map_nil,jC,Act.put,ail,ain,aio];clear j g;go_wp2_with fail;go_ret;exact⟨_,rfl,W.o,k.o⟩
end
