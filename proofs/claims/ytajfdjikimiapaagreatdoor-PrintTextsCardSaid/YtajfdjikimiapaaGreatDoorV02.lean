/-
  A part of the proof.
-/
import Derived.Test.YtajfdjikimiapaaGreatDoorV01
set_option linter.all false
set_option maxRecDepth 100000
set_option maxHeartbeats 4000000
set_option linter.all false
namespace Go.Proofs.YtajfdjikimiapaaGreatDoor
section
open Go.RowKit Mist
attribute [local go_sem] au aN aV aM aG
section
variable {W:World} {A Bi:Option Addr} {c d:Nat} {xs:List NV} {its:List Int}
theorem aS (X:MX W A Bi xs its)(m:xs.length≤10000)(l:its.length≤10000)(k:Int) :
  Calls Tryz.prog 14 #[.agg #[.slice A xs.length c,.slice Bi its.length d],.int .i64 k] W fun e f=>e=.returned (.tuple #[.string (aU (aA ⟨aj xs,its⟩ (aB ⟨aj xs,its⟩ xs.length k) k.toNat (eZ (nd (⟨aj xs,its⟩:Tr) k.toNat).kind)).1),.int .i64 (aA ⟨aj xs,its⟩ (aB ⟨aj xs,its⟩ xs.length k) k.toNat (eZ (nd (⟨aj xs,its⟩:Tr) k.toNat).kind)).2])∧Below W.heap.size W f :=
 ql X.t rfl (fun f j=>bC A Bi c d xs its k f (X.t.below j) m l (fun x g=>(X.r x.1 (List.mem_map.2 ⟨x,g,rfl⟩)).text) fun x g=>(X.r x g).num) fun h=>by
  obtain⟨a,b,e⟩:=aD h;obtain⟨i,h8,_,_⟩:=X8 a X.r;exact⟨i,by simpa [aj] using h8,b,e⟩
theorem bX (X:MX W A Bi xs its)(m:xs.length≤10000)(l:its.length≤10000)(k:Int) :
  Calls Tryz.prog 15 #[.agg #[.slice A xs.length c,.slice Bi its.length d],.int .i64 k] W fun e f=>e=.returned (.tuple #[.string (aU (aA ⟨aj xs,its⟩ (aB ⟨aj xs,its⟩ xs.length k) k.toNat (gF (nd (⟨aj xs,its⟩:Tr) k.toNat).kind)).1),.int .i64 (aA ⟨aj xs,its⟩ (aB ⟨aj xs,its⟩ xs.length k) k.toNat (gF (nd (⟨aj xs,its⟩:Tr) k.toNat).kind)).2])∧Below W.heap.size W f :=
 qz X.t rfl (fun f j=>bC A Bi c d xs its k f (X.t.below j) m l (fun x g=>(X.r x.1 (List.mem_map.2 ⟨x,g,rfl⟩)).text) fun x g=>(X.r x g).num) fun h=>by
  obtain⟨a,b,e⟩:=aD h;obtain⟨i,h8,_,_⟩:=X8 a X.r;exact⟨i,by simpa [aj] using h8,b,e⟩
theorem dz {ns:List Nd}{k:Int}{u j:Nat}{x:Nd}(h:bg ns k u j x):aP ns k=(u:Int):=by
 unfold aP;refine Nq ?_ h.hx ?_
 ·rw [aiD];intro y hy;obtain⟨i,b,rfl⟩:=List.getElem_of_mem hy;rw [List.length_take] at b
  rw [List.getElem_take];have a:ns[i]? = some (ns[i]'(by omega)):=aip (by omega);have h2:=h.before i (by omega) _ a;rw [Bool.not_eq_true',List.any_eq_false];intro z f;obtain⟨q,e,rfl⟩:=List.getElem_of_mem f
  simpa using h2 q _ (aip e)
 ·rw [List.any_eq_true];exact⟨k,aiy h.hj,by simp⟩
theorem aJ (X:MX W A Bi xs its)(hn:xs.length≤10000)(hm:its.length≤10000)(k:Int){z2:Int}{z1:Bs}(hz:aA ⟨aj xs,its⟩ (aB ⟨aj xs,its⟩ xs.length k) k.toNat (eZ (nd (⟨aj xs,its⟩:Tr) k.toNat).kind)=(z1,z2)){u j:Nat}{x y:NV}(hH:z2=0→(bg (aj xs) k u j x.1∧xs[u]? = some x∧∃ i:Nat,k=(i:Int)∧xs[i]? = some y)∧eZ y.1.kind=true∧(j < 2∨¬ (6≤x.1.kind∧x.1.kind≤10∨x.1.kind=17∨x.1.kind=18))) :
  Calls Tryz.prog 16 #[.agg #[.slice A xs.length c,.slice Bi its.length d],.int .i64 k] W fun e D=>e=.returned (.tuple #[.bool (if z2=0 then !n_ x.1.kind j y.1.kind else false),.int .i64 z2])∧Below W.heap.size W D:=by
 have a:=O ((Below.refl W.heap.size W).alloc (aiv _) (.cells #[.slice A xs.length c,.slice Bi its.length d] 25));have S:=O (aS (c:=c) (d:=d) (X.below a.o) hn hm k);rw [hz] at S
 have Y:=O (aZ.new W 25 #[.slice A xs.length c,.slice Bi its.length d]);have HX:=O X;clear hz X;by_cases h0:z2=0
 ·subst h0;obtain⟨⟨l,h,P,rfl,hy⟩,H,I⟩:=hH rfl;have HH:=O l;have V:=O fun D (hb:Below W.heap.size W D)=>dn A Bi c its.length d xs its (P:Int) D (HX.o.t.below hb) hn
  rw [dz l] at V
  have y8:=O fun D (hb:Below W.heap.size W D)=>acY (c:=c) (m:=its.length) (d:=d) (HX.o.t.below hb) rfl h l.hj hy I
  rw [aaA (fun _=>H)] at y8
  obtain⟨b,o,rfl,U⟩:=HX.o.t.nodes (by have:=(aiq.1 h).1;omega);have Q:=U.c3 u x h;obtain⟨Ka,kc,N,a3,J⟩:=U.kid h;rw [N] at Q
  have Q0:=O Q;have a5:=(aiq.1 h).1;have a1:=U.lt;have Z:=O J;have a2:=(aiq.1 l.hj).1;obtain⟨n,C⟩:∃ n,n=xs.length:=⟨_,rfl⟩;obtain⟨m,K⟩:∃ m,m=its.length:=⟨_,rfl⟩;obtain⟨T,B⟩:∃ q,q=x.1.kids.length:=⟨_,rfl⟩;rw [← C,← K] at Y S a V y8 ⊢
  rw [← C] at a5
  rw [← B] at Q0 a2 a3
  have gW:=O B;rw [if_pos rfl];clear C K B hH l h hy U J N Q I H;have y0:(0:Int)≤(u:Int):=by omega
  have y1:(u:Int) < (n:Int):=by omega
  go_in
  go_wp2_with fail;refine S.o.mono ?_;rintro e w2⟨rfl,g⟩;have f:=O (a.o.trans (g.mono a.o.size));have R:=O (Y.o.below g Y.o.lt);have c0:=R.o.cell 0;have c1:=R.o.cell 1;clear g;go_wp2_with fail;refine (V.o _ f.o).mono ?_;rintro e w3⟨rfl,t⟩;have E:=O (f.o.trans (t.mono f.o.size));have Mr:=O (R.o.below t R.o.lt);clear t c0 c1 f R;go_wp2_with fail;go_loopw [9] (fun qv wr=>∃ q:Nat,q≤j∧qv=.int .i64 q∧Hid (Below w3.heap.size w3 wr)) (fun qv _=>T - (intOf qv).toNat)
  case atStart=>exact⟨0,aix _,rfl,O (Below.refl _ _)⟩
  case round =>
   obtain⟨wo,rfl⟩:∃ wo:World,wo=wr:=⟨_,rfl⟩;obtain⟨q,hq,rfl,HL⟩:=hrel;have r:=E.o.trans (HL.o.mono E.o.size);have F:=Mr.o.below HL.o Mr.o.lt;have c0:=F.cell 0;have c1:=F.cell 1;have Q:=(r.cell (p:=⟨b,_,none⟩) a1).trans Q0.o;obtain⟨bk,ok,rfl,a0,w⟩:=Z.o.ex (by rw [← gW.o];omega);obtain⟨s,M⟩:∃ s,x.1.kids[q]? = some s:=⟨_,aip (by rw [← gW.o];omega)⟩;have cj:=(r.cell (p:=⟨bk,ok+q,none⟩) a0).trans (w q s M);have j0:(q:Int) < (T:Int):=by omega
   have j1:(0:Int)≤(q:Int):=by omega
   have vZ:=O r;by_cases L:q=j
   ·subst L;have a4:s=(P:Int):=aiB (M.symm.trans HH.o.hj);subst a4;have e1:((P:Int) == (P:Int))=true:=by simp
    clear M w r;go_wp2_with fail;refine (y8.o _ vZ.o).mono ?_;rintro e w5⟨rfl,G⟩;have b_:=O (vZ.o.trans (G.mono vZ.o.size));clear G cj c0 c1 Q;go_wp2_with fail;go_ret2
    exact⟨rfl,b_.o⟩
   ·have e1:(s == (P:Int))=false:=by simpa using HH.o.first q s (by omega) M
    have HM:=O (show q+1≤j∧T - (q+1) < T - q by omega);have a6:q≤1000000:=by omega
    clear M w r L hq;go_wp2_with fail;exact⟨⟨q+1,HM.o.1,by go_num,HL⟩,by simp only [intOf];have:=HM.o.2;omega⟩
 ·have z:(z2 != 0)=true:=by simpa using h0
  rw [if_neg h0];clear hH h0;go_in
  go_wp2_with fail;refine S.o.mono ?_;rintro e w2⟨rfl,g⟩;have f:=O (a.o.trans (g.mono a.o.size));clear g;go_wp2_with fail;go_ret2
  exact⟨rfl,f.o⟩
end
end
set_option linter.all false
section
open Go.RowKit Mist
theorem bT {T:Tr}{a:Int}{i:Nat}{ok:Bool}(h:(aA T a i ok).2=0):a=0∧ok=true:=by
 unfold aA at h
 by_cases h1:a ≠ 0
 ·rw [if_pos h1] at h;exact absurd h h1
 ·rw [if_neg h1] at h
  cases ok
  ·rw [if_pos rfl] at h;cases h
  ·exact⟨by simpa using h1,rfl⟩
theorem mo {T:Tr}{n:Nat}{k z2:Int}{z1:Bs}(t:T.nodes.length=n)(o:ED T.nodes)(r:aA T (aB T n k) k.toNat (eZ (nd T k.toNat).kind)=(z1,z2))(h0:z2=0):∃ (u j i:Nat) (x y:Nd),bg T.nodes k u j x∧k=(i:Int)∧T.nodes[i]? = some y∧eZ y.kind=true∧(j < 2∨¬ (6≤x.kind∧x.kind≤10∨x.kind=17∨x.kind=18)):=by
 obtain⟨a,b⟩:=bT (by rw [r];exact h0);obtain⟨h1,h2,h3⟩:=aD a;obtain⟨i,rfl⟩:∃ i:Nat,k=(i:Int):=⟨k.toNat,by omega⟩;rw [aiC] at b
 have h:i < T.nodes.length:=by omega
 obtain⟨_,f,_⟩:=bL h1;obtain⟨g,_⟩:=X8 h1 o;obtain⟨u,j,x,e⟩:=sS f h b;obtain⟨y,hy⟩:∃ y,T.nodes[i]? = some y:=⟨_,aip h⟩
 refine⟨u,j,i,x,y,e,rfl,hy,by rw [← jX hy];exact b,?_⟩
 by_cases q:6≤x.kind∧x.kind≤10∨x.kind=17∨x.kind=18
 ·left
  have m:=U5 (g.right u (aiq.1 e.hx).1);have l:=m.many;rw [jX e.hx] at l
  have h4:=qd (by omega) _ rfl l;have h5:=(aiq.1 e.hj).1;omega
 ·exact .inr q
theorem cK {xs:List NV}{i:Nat}{x:Nd}(h:(aj xs)[i]? = some x):∃ v,xs[i]? = some v∧v.1=x:=by
 unfold aj at h
 rw [List.getElem?_map] at h
 rcases hv:xs[i]? with _ | v
 ·rw [hv] at h;cases h
 ·rw [hv] at h;exact⟨v,rfl,aiB h⟩
theorem bE {ns:List Nd}{its:List Int}{n:Nat}{k z2:Int}{z1:Bs}(o:ns.length=n)(H:n≤10000)(E:its.length≤10000)(F:ED ns)(q:aA ⟨ns,its⟩ (aB ⟨ns,its⟩ n k) k.toNat (eZ (nd (⟨ns,its⟩:Tr) k.toNat).kind)=(z1,z2)):∃ C:Bool,(∀ {W:World} {A Bi:Option Addr} (c d:Nat) {xs:List NV},aj xs=ns→MX W A Bi xs its→Calls Tryz.prog 13 #[.agg #[.slice A xs.length c,.slice Bi its.length d],.int .i64 k] W fun e r=>e=.returned (.tuple #[.bool C,.int .i64 z2])∧Below W.heap.size W r) ∧
  ∀ {W:World} {A Bi:Option Addr} (c d:Nat) {xs:List NV},aj xs=ns→MX W A Bi xs its→Calls Tryz.prog 16 #[.agg #[.slice A xs.length c,.slice Bi its.length d],.int .i64 k] W fun e r=>e=.returned (.tuple #[.bool C,.int .i64 z2])∧Below W.heap.size W r:=by
 by_cases h0:z2=0
 ·obtain⟨u,j,i,x,y,b,D,hy,t,G⟩:=mo (T:=⟨ns,its⟩) o F q h0
  refine⟨!n_ x.kind j y.kind,?_,?_⟩
  ·intro W A Bi c d xs e X;subst e;obtain⟨w,f,g⟩:=cK b.hx;obtain⟨B,l,m⟩:=cK hy;subst g m;have a:xs.length=n:=by rw [← o,bW]
   have h:=aL (c:=c) (d:=d) X (by omega) k (z1:=z1) (z2:=z2) (by rw [a];exact q) (u:=u) (j:=j) (x:=w) (y:=B) fun _=>⟨b,f,i,D,l⟩
   rw [if_pos h0] at h
   exact h
  ·intro W A Bi c d xs e X;subst e;obtain⟨w,f,g⟩:=cK b.hx;obtain⟨B,l,m⟩:=cK hy;subst g m;have a:xs.length=n:=by rw [← o,bW]
   have h:=aJ (c:=c) (d:=d) X (by omega) E k (z1:=z1) (z2:=z2) (by rw [a];exact q) (u:=u) (j:=j) (x:=w) (y:=B) fun _=>⟨⟨b,f,i,D,l⟩,t,G⟩
   rw [if_pos h0] at h
   exact h
 ·refine⟨false,?_,?_⟩
  ·intro W A Bi c d xs e X;subst e;have a:xs.length=n:=by rw [← o,bW]
   have h:=aL (c:=c) (d:=d) X (by omega) k (z1:=z1) (z2:=z2) (by rw [a];exact q) (u:=0) (j:=0) (x:=default) (y:=default) fun h=>absurd h h0
   rw [if_neg h0] at h
   exact h
  ·intro W A Bi c d xs e X;subst e;have a:xs.length=n:=by rw [← o,bW]
   have h:=aJ (c:=c) (d:=d) X (by omega) E k (z1:=z1) (z2:=z2) (by rw [a];exact q) (u:=0) (j:=0) (x:=default) (y:=default) fun h=>absurd h h0
   rw [if_neg h0] at h
   exact h
end
