/-
  A part of the proof.
-/
import Derived.Test.YtajfdjikimiapaaGreatDoorS33
set_option linter.all false
set_option maxRecDepth 100000
set_option maxHeartbeats 4000000
set_option linter.all false
namespace Go.Proofs.YtajfdjikimiapaaGreatDoor
section
open Go.RowKit Mist
attribute [local go_sem] au aN aV aM aG
def aA (T:Tr)(e0:Int)(i:Nat)(ok:Bool):Bs × Int:=if e0 ≠ 0 then ([],e0) else if ok=false then ([],2) else ((jA (dW (ah T (T.nodes.length+2) i)) (ah T (T.nodes.length+2) i).length).1,((jA (dW (ah T (T.nodes.length+2) i)) (ah T (T.nodes.length+2) i).length).2:Nat))
theorem ql {A Bi:Option Addr}{c m d n:Nat}{node:Int}{xs:List NV}{its:List Int}{w:World}{l:Int}(N:lJ w A Bi xs its)(J:xs.length=n)
  (G:∀ W,Below w.heap.size w W→Calls Tryz.prog 39 #[.agg #[.slice A n c,.slice Bi m d],.int .i64 node] W fun e B=>e=.returned (.int .i64 l)∧Below W.heap.size W B)
  (y:l=0→GD ⟨aj xs,its⟩∧n≤800∧0≤node∧node < n) :
  Calls Tryz.prog 14 #[.agg #[.slice A n c,.slice Bi m d],.int .i64 node] w fun e B=>e=.returned (.tuple #[.string (aU (aA ⟨aj xs,its⟩ l node.toNat (eZ (nd (⟨aj xs,its⟩:Tr) node.toNat).kind)).1),.int .i64 (aA ⟨aj xs,its⟩ l node.toNat (eZ (nd (⟨aj xs,its⟩:Tr) node.toNat).kind)).2])∧Below w.heap.size w B:=by
 have Z:=O G;clear G;have g:=O (aZ.new w 25 #[.slice A n c,.slice Bi m d]);have r:=O (aF (Below.refl w.heap.size w) (aiv _) (o:=.cells #[.slice A n c,.slice Bi m d] 25));by_cases H:l=0
 ·subst H;obtain⟨k,h8,U,V⟩:=y rfl;obtain⟨i,rfl⟩:∃ i:Nat,node=(i:Int):=⟨node.toNat,by omega⟩;have I:i < n:=by omega
  have E:∀ W,Below w.heap.size w W→Calls Tryz.prog 42 #[.agg #[.slice A n c,.slice Bi m d],.int .i64 (i:Nat)] W (BR (ah ⟨aj xs,its⟩ (n+2) i) W):=(ad1 (c:=c) (m:=m) (d:=d) N J (by omega) k (n+2) i (by omega) I);have uL:=O E;clear E;obtain⟨x,Y⟩:=iG (xs:=xs) (i:=i) (by rw [J];exact I);have ex:=aY its Y;have P:(⟨aj xs,its⟩:Tr).nodes.length=n:=by rw [← J];simp [aj]
  obtain⟨b,o,rfl,Q⟩:=N.nodes (by omega);have k0:=Q.c0 i x Y;have F:=Q.lt
  have T:(ah ⟨aj xs,its⟩ (n+2) i).length≤9612:=by
   have:=y9 k.right k.fo (i:=i) (f:=n+2) (by rw [P];exact I) (by omega)
   omega
  have X:(dW (ah ⟨aj xs,its⟩ (n+2) i)).length≤124956:=by
   have:=qW (wN k (n+2) i (by rw [P];exact I))
   omega
  simp only [aiC];rw [ex];have t:=O (show aA ⟨aj xs,its⟩ 0 i (eZ x.1.kind)=if eZ x.1.kind=false then ([],2) else ((jA (dW (ah ⟨aj xs,its⟩ (n+2) i)) (ah ⟨aj xs,its⟩ (n+2) i).length).1,(((jA (dW (ah ⟨aj xs,its⟩ (n+2) i)) (ah ⟨aj xs,its⟩ (n+2) i).length).2:Nat):Int)) by unfold aA;rw [if_neg (by simp),P]);have MJ:=O fun (v:Value) (B:World) (h:kJ (.bits (ah ⟨aj xs,its⟩ (n+2) i)) v B)=>afh (by omega) (by omega) h
  generalize ah ⟨aj xs,its⟩ (n+2) i=L at *
  generalize x.1.kind=K at *
  have C:=O fun B=>zQ K B
  generalize eZ K=q at *
  generalize aA ⟨aj xs,its⟩ 0 i q=z at *
  have y0:(0:Int)≤(i:Int):=by omega
  have y1:(i:Int) < (n:Int):=by omega
  clear N J y k U V I Y ex P Q T X;have R:=g.o.cell 0;have S:=g.o.cell 1;go_in
  rcases q with _ | _
  ·rw [if_pos rfl] at t
   go_wp2_with (first|(go_at_call 39;refine (Z.o _ r.o).mono ?_;rintro e w2⟨rfl,a⟩;have u:=O (r.o.trans (a.mono r.o.size));have j:=O (g.o.below a g.o.lt);have d0:=j.o.cell 0;have d1:=j.o.cell 1;have kk:=(u.o.cell (p:=⟨b,_,none⟩) F).trans k0;clear a)|(go_at_call 40;refine (C.o _).mono ?_;rintro e w3⟨rfl,rfl⟩))
   go_ret2
   exact⟨by rw [t.o];rfl,u.o⟩
  ·rw [if_neg (by simp)] at t
   go_wp2_with (first|(go_at_call 39;refine (Z.o _ r.o).mono ?_;rintro e w2⟨rfl,a⟩;have u:=O (r.o.trans (a.mono r.o.size));have j:=O (g.o.below a g.o.lt);have d0:=j.o.cell 0;have d1:=j.o.cell 1;have kk:=(u.o.cell (p:=⟨b,_,none⟩) F).trans k0;clear a)|(go_at_call 40;refine (C.o _).mono ?_;rintro e w3⟨rfl,rfl⟩)|(go_at_call 42;refine (uL.o _ u.o).mono ?_;rintro e w4⟨v4,rfl,M,D⟩;have HV:=O M;have mh:=O (u.o.trans (D.mono u.o.size));clear M D)|(go_at_call 41;refine (MJ.o _ _ HV.o).mono ?_;rintro e w5⟨rfl,rfl⟩))
   go_ret2
   exact⟨by rw [t.o];rfl,mh.o⟩
 ·have a0:(l == 0)=false:=by simp [H]
  have zJ:(l != 0)=true:=by simp [H]
  have t:=O (show aA ⟨aj xs,its⟩ l node.toNat (eZ (nd (⟨aj xs,its⟩:Tr) node.toNat).kind)=([],l) by unfold aA;rw [if_pos H]);rw [t.o];have R:=g.o.cell 0;have S:=g.o.cell 1;clear H y N J t;go_in
  go_wp2_with (go_at_call 39;refine (Z.o _ r.o).mono ?_;rintro e w2⟨rfl,a⟩)
  go_ret2
  exact⟨rfl,r.o.trans (a.mono r.o.size)⟩
theorem qz {A Bi:Option Addr}{c m d n:Nat}{node:Int}{xs:List NV}{its:List Int}{w:World}{l:Int}(N:lJ w A Bi xs its)(J:xs.length=n)
  (G:∀ W,Below w.heap.size w W→Calls Tryz.prog 39 #[.agg #[.slice A n c,.slice Bi m d],.int .i64 node] W fun e B=>e=.returned (.int .i64 l)∧Below W.heap.size W B)
  (y:l=0→GD ⟨aj xs,its⟩∧n≤800∧0≤node∧node < n) :
  Calls Tryz.prog 15 #[.agg #[.slice A n c,.slice Bi m d],.int .i64 node] w fun e B=>e=.returned (.tuple #[.string (aU (aA ⟨aj xs,its⟩ l node.toNat (gF (nd (⟨aj xs,its⟩:Tr) node.toNat).kind)).1),.int .i64 (aA ⟨aj xs,its⟩ l node.toNat (gF (nd (⟨aj xs,its⟩:Tr) node.toNat).kind)).2])∧Below w.heap.size w B:=by
 have Z:=O G;clear G;have g:=O (aZ.new w 25 #[.slice A n c,.slice Bi m d]);have r:=O (aF (Below.refl w.heap.size w) (aiv _) (o:=.cells #[.slice A n c,.slice Bi m d] 25));by_cases H:l=0
 ·subst H;obtain⟨k,h8,U,V⟩:=y rfl;obtain⟨i,rfl⟩:∃ i:Nat,node=(i:Int):=⟨node.toNat,by omega⟩;have I:i < n:=by omega
  have E:∀ W,Below w.heap.size w W→Calls Tryz.prog 42 #[.agg #[.slice A n c,.slice Bi m d],.int .i64 (i:Nat)] W (BR (ah ⟨aj xs,its⟩ (n+2) i) W):=(ad1 (c:=c) (m:=m) (d:=d) N J (by omega) k (n+2) i (by omega) I);have uL:=O E;clear E;obtain⟨x,Y⟩:=iG (xs:=xs) (i:=i) (by rw [J];exact I);have ex:=aY its Y;have P:(⟨aj xs,its⟩:Tr).nodes.length=n:=by rw [← J];simp [aj]
  obtain⟨b,o,rfl,Q⟩:=N.nodes (by omega);have k0:=Q.c0 i x Y;have F:=Q.lt
  have T:(ah ⟨aj xs,its⟩ (n+2) i).length≤9612:=by
   have:=y9 k.right k.fo (i:=i) (f:=n+2) (by rw [P];exact I) (by omega)
   omega
  have X:(dW (ah ⟨aj xs,its⟩ (n+2) i)).length≤124956:=by
   have:=qW (wN k (n+2) i (by rw [P];exact I))
   omega
  simp only [aiC];rw [ex];have t:=O (show aA ⟨aj xs,its⟩ 0 i (gF x.1.kind)=if gF x.1.kind=false then ([],2) else ((jA (dW (ah ⟨aj xs,its⟩ (n+2) i)) (ah ⟨aj xs,its⟩ (n+2) i).length).1,(((jA (dW (ah ⟨aj xs,its⟩ (n+2) i)) (ah ⟨aj xs,its⟩ (n+2) i).length).2:Nat):Int)) by unfold aA;rw [if_neg (by simp),P]);have MJ:=O fun (v:Value) (B:World) (h:kJ (.bits (ah ⟨aj xs,its⟩ (n+2) i)) v B)=>afh (by omega) (by omega) h
  generalize ah ⟨aj xs,its⟩ (n+2) i=L at *
  generalize x.1.kind=K at *
  have C:=O fun B=>uF K B
  generalize gF K=q at *
  generalize aA ⟨aj xs,its⟩ 0 i q=z at *
  have y0:(0:Int)≤(i:Int):=by omega
  have y1:(i:Int) < (n:Int):=by omega
  clear N J y k U V I Y ex P Q T X;have R:=g.o.cell 0;have S:=g.o.cell 1;go_in
  rcases q with _ | _
  ·rw [if_pos rfl] at t
   go_wp2_with (first|(go_at_call 39;refine (Z.o _ r.o).mono ?_;rintro e w2⟨rfl,a⟩;have u:=O (r.o.trans (a.mono r.o.size));have j:=O (g.o.below a g.o.lt);have d0:=j.o.cell 0;have d1:=j.o.cell 1;have kk:=(u.o.cell (p:=⟨b,_,none⟩) F).trans k0;clear a)|(go_at_call 43;refine (C.o _).mono ?_;rintro e w3⟨rfl,rfl⟩))
   go_ret2
   exact⟨by rw [t.o];rfl,u.o⟩
  ·rw [if_neg (by simp)] at t
   go_wp2_with (first|(go_at_call 39;refine (Z.o _ r.o).mono ?_;rintro e w2⟨rfl,a⟩;have u:=O (r.o.trans (a.mono r.o.size));have j:=O (g.o.below a g.o.lt);have d0:=j.o.cell 0;have d1:=j.o.cell 1;have kk:=(u.o.cell (p:=⟨b,_,none⟩) F).trans k0;clear a)|(go_at_call 43;refine (C.o _).mono ?_;rintro e w3⟨rfl,rfl⟩)|(go_at_call 42;refine (uL.o _ u.o).mono ?_;rintro e w4⟨v4,rfl,M,D⟩;have HV:=O M;have mh:=O (u.o.trans (D.mono u.o.size));clear M D)|(go_at_call 41;refine (MJ.o _ _ HV.o).mono ?_;rintro e w5⟨rfl,rfl⟩))
   go_ret2
   exact⟨by rw [t.o];rfl,mh.o⟩
 ·have a0:(l == 0)=false:=by simp [H]
  have zJ:(l != 0)=true:=by simp [H]
  have t:=O (show aA ⟨aj xs,its⟩ l node.toNat (gF (nd (⟨aj xs,its⟩:Tr) node.toNat).kind)=([],l) by unfold aA;rw [if_pos H]);rw [t.o];have R:=g.o.cell 0;have S:=g.o.cell 1;clear H y N J t;go_in
  go_wp2_with (go_at_call 39;refine (Z.o _ r.o).mono ?_;rintro e w2⟨rfl,a⟩)
  go_ret2
  exact⟨rfl,r.o.trans (a.mono r.o.size)⟩
end
section
open Mist
theorem bL {t:Tr}(h:eP t=0):Mist.large t=false∧Cu t∧∃ out,Bh t.nodes out t.nodes.length:=by
 unfold eP at h
 split at h
 ·omega
 rename_i h1
 split at h
 ·omega
 rename_i h2
 split at h
 ·omega
 rename_i h3
 have f:∀ i,i < t.nodes.length→Mist.formed t i=true:=by
  have h9:(List.range t.nodes.length).all (Mist.formed t)=true:=by simpa using h2
  intro i a;exact aiD.1 h9 i (List.mem_range.2 a)
 have g:∀ (i:Nat) n,t.nodes[i]? = some n→∀ c ∈ n.kids,0≤c∧c≤(i:Int) - 1:=by
  intro i n a c e;have h9:=((mZ t i).1 (f i (aiq.1 a).1)).2.2 c;rw [jX a] at h9
  exact h9 e
 have j:Mist.ordered t=true:=by
  rcases h8:Mist.ordered t with _ | _
  ·exact absurd (Or.inl h8) h3
  ·rfl
 have b:=DL g j;obtain⟨l,_,k⟩:=Cu.sizes b.fo;exact⟨by simpa using h1,b,l,k⟩
end
section
open Go.RowKit Mist
def aP (ns:List Nd)(c:Int):Int:=vG (fun x=>x.kids.any (· == c)) ns
def aB (t:Tr)(n:Nat)(i:Int):Int:=if eP t ≠ 0 then eP t else if Mist.within i 0 ((n:Int) - 1)=false then 7 else 0
end
section
open Go.RowKit Mist
attribute [local go_sem] au aN aV aM aG
theorem aR {t:Tr}{n:Nat}{i:Int}(h:eP t ≠ 0):aB t n i=eP t:=if_pos h
theorem aK {t:Tr}{n:Nat}{i:Int}(h:eP t=0)(h2:Mist.within i 0 ((n:Int) - 1)=false):aB t n i=7:=by unfold aB;rw [if_neg (by rw [h];simp),if_pos h2]
theorem bZ {t:Tr}{n:Nat}{i:Int}(h:eP t=0)(h2:Mist.within i 0 ((n:Int) - 1)=true):aB t n i=0:=by unfold aB;rw [if_neg (by rw [h];simp),if_neg (by rw [h2];simp)]
end
section
open Go.RowKit Mist
attribute [local go_sem] au aN aV aM aG
theorem bC (A B:Option Addr)(c d:Nat)(xs:List NV)(its:List Int)(node:Int)(w:World)(F:lJ w A B xs its)(I:xs.length≤10000)(H:its.length≤10000)(G:∀ x ∈ xs,x.1.text.length≤100000000)(K:∀ n ∈ aj xs,j6≤n.n∧n.n≤gL) :
  Calls Tryz.prog 39 #[.agg #[.slice A xs.length c,.slice B its.length d],.int .i64 node] w fun e Q=>e=.returned (.int .i64 (aB ⟨aj xs,its⟩ xs.length node))∧Below w.heap.size w Q:=by
 have u:=O fun W (P:Below w.heap.size w W)=>acG A B c d xs its W (F.below P) I H G
 have j:=O (ady ⟨aj xs,its⟩ K);obtain⟨T,J⟩:∃ T:Tr,T=⟨aj xs,its⟩:=⟨_,rfl⟩;rw [← J] at u j ⊢
 clear J F H G K;obtain⟨n,k⟩:∃ n,n=xs.length:=⟨_,rfl⟩;rw [← k] at u I ⊢
 clear k;have f:=O (aZ.new w 25 #[.slice A n c,.slice B its.length d]);have t:=O (aF (Below.refl w.heap.size w) (aiv _) (o:=.cells #[.slice A n c,.slice B its.length d] 25));go_in
 go_wp2_with fail;refine (u.o _ t.o).mono ?_;rintro e U⟨rfl,g⟩;rw [← j.o];have L:=O (f.o.below g f.o.lt);have r:=O (t.o.trans (g.mono t.o.size));clear g f t u;have S:=L.o.cell 0;by_cases a:eP T=0
 case neg =>
  have b:=O (show aB T n node=eP T from aR a);obtain⟨E,D⟩:∃ E,E=eP T:=⟨_,rfl⟩;rw [← D] at a b ⊢
  have R:(E != 0)=true:=by simpa using a
  clear D a;go_wp2_with fail;go_ret;exact⟨by rw [b.o];first | done | rfl,r.o⟩
 have C:=O a;rw [a];clear a;by_cases h:node < 0
 ·have M:decide (node < 0)=true:=aiG h;have b:=O (aK (n:=n) (i:=node) C.o (by unfold Mist.within;simp;omega));clear h;go_wp2_with fail;go_ret;exact⟨by rw [b.o];first | done | rfl,r.o⟩
 have M:decide (node < 0)=false:=aiH h;obtain⟨q,rfl⟩:∃ q:Nat,node=(q:Int):=⟨node.toNat,by omega⟩;by_cases l:n≤q
 ·have N:decide (n≤q)=true:=aiG l;have y:decide ((n:Int)≤(q:Int))=true:=aiG (by omega);have b:=O (aK (n:=n) (i:=(q:Int)) C.o (by unfold Mist.within;simp;omega));go_wp2_with fail;go_ret;exact⟨by rw [b.o];first | done | rfl,r.o⟩
 ·have N:decide (n≤q)=false:=aiH l;have y:decide ((n:Int)≤(q:Int))=false:=aiH (by omega);have b:=O (bZ (n:=n) (i:=(q:Int)) C.o (by unfold Mist.within;simp;omega));go_wp2_with fail;go_ret;exact⟨by rw [b.o];first | done | rfl,r.o⟩
theorem aD {T:Tr}{n:Nat}{i:Int}(h:aB T n i=0):eP T=0∧0≤i∧i < (n:Int):=by
 unfold aB at h
 split at h
 ·rename_i h1;exact absurd h h1
 ·rename_i h1
  split at h
  ·cases h
  ·rename_i h2
   refine⟨by simpa using h1,?_⟩
   simp [Mist.within] at h2
   omega
theorem dn (A B:Option Addr)(c m d:Nat)(xs:List NV)(its:List Int)(node:Int)(w:World)(X:lJ w A B xs its)(hn:xs.length≤10000) :
  Calls Tryz.prog 44 #[.agg #[.slice A xs.length c,.slice B m d],.int .i64 node] w fun e w'=>e=.returned (.int .i64 (aP (aj xs) node))∧Below w.heap.size w w':=by
 have HT:=O X;clear X;obtain⟨n,u⟩:∃ n,n=xs.length:=⟨_,rfl⟩;rw [← u] at hn ⊢
 have N:=O u;clear u;have D:=O (aZ.new w 25 #[.slice A n c,.slice B m d]);have V:=O (aF (Below.refl w.heap.size w) (aiv _) (o:=.cells #[.slice A n c,.slice B m d] 25));go_in
 go_wp2_with fail;go_loopw [5,6] (fun i _ wr=>∃ k:Nat,k≤n∧i=.int .i64 k∧Hid (((aj xs).take k).all (fun y=>!(y.kids.any (· == node)))=true)∧Hid (aZ wr w.heap.size 25 #[.slice A n c,.slice B m d])∧Hid (Below w.heap.size w wr)) (fun i _ _=>n - (intOf i).toNat)
 case atStart=>exact⟨0,aix _,rfl,O rfl,D,V⟩
 case round =>
  clear D V;obtain⟨wo,rfl⟩:∃ wo:World,wo=wr:=⟨_,rfl⟩;obtain⟨k,hk,rfl,M,a,f⟩:=hrel;have Z:=a.o.cell 0;have t1:=a.o.cell 1;by_cases r:k < n
  ·have i3:decide (k < n)=true:=aiG r;obtain⟨b,o,rfl,J⟩:=HT.o.nodes (by rw [← N.o];omega);obtain⟨x,L⟩:∃ x,xs[k]? = some x:=iG (by rw [← N.o];exact r);obtain⟨K,ck,G,F,H⟩:=J.kid L;have h:=O (show ∀ W,Below w.heap.size w W→W.cell? ⟨b,o+k * 5+3,none⟩=some (.slice K x.1.kids.length ck) from fun W hb=>by rw [← G];exact (hb.cell (by exact J.lt)).trans (J.c3 k x L));have l:=O (jd L);have S:=O H;clear J L G H;obtain⟨y,hy⟩:∃ y,y=x.1:=⟨_,rfl⟩;rw [← hy] at h l S F
   clear hy;obtain⟨g,t⟩:∃ g,g=y.kids.length:=⟨_,rfl⟩;rw [← t] at h F
   have Q:=O t;clear t;have i1:(0:Int)≤(k:Int):=by omega
   have i2:(k:Int) < (n:Int):=by omega
   have HS:=O (show (aj xs).take (k+1)=(aj xs).take k ++ [y] by rw [List.take_add_one,l.o];rfl);go_wp2_with fail;go_loopw [6] (fun j vU=>∃ q:Nat,q≤g∧j=.int .i64 q∧Hid ((y.kids.take q).all (fun z=>!(z == node))=true)∧Hid (aZ vU w.heap.size 25 #[.slice (some ⟨b,o,none⟩) n c,.slice B m d])∧Hid (Below w.heap.size w vU)) (fun j _=>g - (intOf j).toNat)
   case atStart=>exact⟨0,aix _,rfl,O rfl,a,f⟩
   case round =>
    clear a f Z t1;obtain⟨q,hq,rfl,T,a,f⟩:=hrel;have Z:=a.o.cell 0;have t1:=a.o.cell 1;have c3:=h.o wr f.o;by_cases C:q < g
    ·have j3:decide (q < g)=true:=aiG C;obtain⟨bk,ok,rfl,R,E⟩:=S.o.ex (by rw [← Q.o];omega);obtain⟨z,I⟩:∃ z,y.kids[q]? = some z:=⟨_,aip (by rw [← Q.o];exact C)⟩;have cj:=(f.o.cell (p:=⟨bk,ok+q,none⟩) R).trans (E q z I);have j1:(0:Int)≤(q:Int):=by omega
     have j2:(q:Int) < (g:Int):=by omega
     have U:=O I;clear E I
     cases Y:z == node
     ·have IQ:=O Y;go_wp2_with fail;exact⟨⟨q+1,by omega,by go_num,O (by rw [List.take_add_one,U.o,List.all_append,T.o];simp [IQ.o]),a,f⟩,by simp [intOf];omega⟩
     ·have P:=O (show aP (aj xs) node=(k:Int) from Nq M.o l.o (by rw [List.any_eq_true];exact⟨z,aiy U.o,Y⟩));go_wp2_with fail;go_ret;exact⟨by rw [P.o];first | done | rfl,f.o⟩
    ·have j3:decide (q < g)=false:=aiH C
     have Ai:=O (show (!(y.kids.any (· == node)))=true by
      have h9:=T.o;rw [aiz (by rw [← Q.o];omega)] at h9
      rw [aiD] at h9
      rw [Bool.not_eq_true',← Bool.not_eq_true,List.any_eq_true]
      rintro⟨z,I,he⟩
      have:=h9 z I
      rw [he] at this;cases this)
     go_wp2_with fail;exact⟨⟨k+1,by omega,by go_num,O (by rw [HS.o,List.all_append,M.o];simpa using Ai.o),a,f⟩,by simp [intOf];omega⟩
  ·have i3:decide (k < n)=false:=aiH r
   have P:=O (show aP (aj xs) node=-1 by
    have h9:=M.o;rw [aiz (by rw [bW,← N.o];omega)] at h9
    exact JF h9)
   go_wp2_with fail;go_ret;exact⟨by rw [P.o];first | done | rfl,f.o⟩
end
set_option linter.all false
section
open Go.RowKit Mist
attribute [local go_sem] au aN aV aM aG
theorem qb (k:Nat):(((lH k).2:Nat):Int)=if eZ k then 0 else 2:=by
 unfold lH;rw [show eZ k=jF k from rfl]
 cases jF k
 ·rfl
 ·rw [if_pos rfl,if_pos rfl];split <;> rfl
theorem zq (k:Nat)(w:World):Calls Tryz.prog 33 #[.int .u8 k] w fun e f=>e=.returned (.bool (eZ k))∧Below w.heap.size w f:=by
 have a:=O (Yx k);have h2:=qb k
 cases h:eZ k
 ·rw [h,if_neg (by simp)] at h2
  rw [h2] at a
  clear h h2;go_in
  go_wp2_with (go_at_call 70;refine (a.o _).mono ?_;rintro e g⟨rfl,b⟩)
  go_ret;exact⟨rfl,b⟩
 ·rw [h,if_pos rfl] at h2
  rw [h2] at a
  clear h h2;go_in
  go_wp2_with (go_at_call 70;refine (a.o _).mono ?_;rintro e g⟨rfl,b⟩)
  go_ret;exact⟨rfl,b⟩
theorem bS (b T k:Nat)(w:World)(g:aZ w b T #[.int .u8 30,.int .u8 31,.int .u8 32,.int .u8 33]) :
  Calls Tryz.prog 129 #[.slice (some ⟨b,0,none⟩) 4 4,.int .u8 k] w fun e t=>∃ i:Int,e=.returned (.int .i64 i)∧decide (0≤i)=gF k∧t=w:=by
 have u:=g.cell 0;have x:=g.cell 1;have y:=g.cell 2;have c3:=g.cell 3;clear g;go_in
 go_wp2_with fail;go_loopw [5,8] (fun _ i wr=>∃ j:Nat,j≤4∧i=.int .i64 j∧Hid (∀ q,q < j→k ≠ 30+q)∧wr=w) (fun _ i _=>4 - (intOf i).toNat)
 case atStart=>exact⟨0,by omega,rfl,O fun q h=>absurd h (Nat.not_lt_zero q),rfl⟩
 case round =>
  obtain⟨j,B,rfl,a,rfl⟩:=hrel;by_cases h:j < 4∧k=30+j
  ·obtain⟨h4,rfl⟩:=h;have l:=O (show gF (30+j)=true by unfold gF;simp;omega);rcases (by omega:j=0∨j=1∨j=2∨j=3) with rfl | rfl | rfl | rfl
   all_goals
    go_wp2_with fail;go_ret;exact⟨_,rfl,by rw [l.o];rfl,rfl⟩
  ·rcases (by omega:j=4∨j=0∨j=1∨j=2∨j=3) with rfl | rfl | rfl | rfl | rfl
   ·have l:=O (show gF k=false by
     have h0:=a.o 0 (by omega);have h1:=a.o 1 (by omega);have h2:=a.o 2 (by omega);have h3:=a.o 3 (by omega);unfold gF;simp;omega)
    go_wp2_with fail;go_ret;exact⟨_,rfl,by rw [l.o];rfl,rfl⟩
   ·have o:((k:Int) == 30)=false:=by simp;omega
    have f:=O (show ∀ q,q < 0+1→k ≠ 30+q from fun q r=>by omega);clear h;go_wp2_with fail;exact⟨⟨1,by omega,by go_num,f,trivial⟩,by simp [intOf]⟩
   ·have o:((k:Int) == 31)=false:=by simp;omega
    have f:=O (show ∀ q,q < 1+1→k ≠ 30+q from fun q r=>by have:=a.o 0 (by omega);omega);clear h;go_wp2_with fail;exact⟨⟨2,by omega,by go_num,f,trivial⟩,by simp [intOf]⟩
   ·have o:((k:Int) == 32)=false:=by simp;omega
    have f:=O (show ∀ q,q < 2+1→k ≠ 30+q from fun q r=>by have:=a.o 0 (by omega);have:=a.o 1 (by omega);omega);clear h;go_wp2_with fail;exact⟨⟨3,by omega,by go_num,f,trivial⟩,by simp [intOf]⟩
   ·have o:((k:Int) == 33)=false:=by simp;omega
    have f:=O (show ∀ q,q < 3+1→k ≠ 30+q from fun q r=>by have:=a.o 0 (by omega);have:=a.o 1 (by omega);have:=a.o 2 (by omega);omega);clear h;go_wp2_with fail;exact⟨⟨4,by omega,by go_num,f,trivial⟩,by simp [intOf]⟩
theorem tq (k:Nat)(w:World):Calls Tryz.prog 36 #[.int .u8 k] w fun e a=>e=.returned (.bool (gF k))∧Below w.heap.size w a:=by
 have f:=O (aZ.new w 5 #[.int .u8 30,.int .u8 31,.int .u8 32,.int .u8 33]);have j:=O (aF (Below.refl w.heap.size w) (aiv _) (o:=.cells #[.int .u8 30,.int .u8 31,.int .u8 32,.int .u8 33] 5))
 have g:=O (show Calls Tryz.prog 78 #[.slice (some ⟨w.heap.size,0,none⟩) 4 4,.int .u8 k] (w.alloc (.cells #[.int .u8 30,.int .u8 31,.int .u8 32,.int .u8 33] 5)) fun e a=>e=.returned (.bool (gF k))∧a=w.alloc (.cells #[.int .u8 30,.int .u8 31,.int .u8 32,.int .u8 33] 5) from by
  have h:=O (bS w.heap.size 5 k _ f.o);go_in
  go_wp2_with fail;refine h.o.mono ?_;rintro e q⟨i,rfl,b,rfl⟩;have l:=O b;clear b;go_wp2_with fail;go_ret;exact⟨by rw [← l.o];rfl,rfl⟩)
 go_in
 go_wp2_with (go_at_call 78;refine g.o.mono ?_;rintro e q⟨rfl,rfl⟩)
 go_ret;exact⟨rfl,j.o⟩
def aC (T:Tr)(n:Nat)(k:Int)(fit:Nat→Bool):Int:=if aB T n k ≠ 0 then aB T n k else if fit (nd T k.toNat).kind then 0 else 2
section
variable {W:World} {A Bi:Option Addr} {c d:Nat} {xs:List NV} {its:List Int}
theorem bn {T:Tr}{n:Nat}{k:Int}{a:Nat→Bool}(h:aB T n k ≠ 0):aC T n k a=aB T n k:=by unfold aC;rw [if_pos h]
theorem pI {T:Tr}{n:Nat}{k:Int}{a:Nat→Bool}(h:aB T n k=0):aC T n k a=if a (nd T k.toNat).kind then 0 else 2:=by unfold aC;rw [if_neg (by simp [h])]
theorem pJ (X:MX W A Bi xs its)(k:Int)(g:Nat)(r:Nat→Bool)(Z:∀ (q:Nat) D,Sem.run Tryz.prog (callFunc g #[.int .u8 q]) D=.ok (.enter g #[.int .u8 q]) D)
  (hf:∀ (q:Nat) D,Calls Tryz.prog g #[.int .u8 q] D fun e W2=>e=.returned (.bool (r q))∧Below D.heap.size D W2) :
  Calls Tryz.prog 32 #[.agg #[.slice A xs.length c,.slice Bi its.length d],.int .i64 k,.func (.func g) #[] #[]] W fun e D=>e=.returned (.int .i64 (aC ⟨aj xs,its⟩ xs.length k r))∧Below W.heap.size W D:=by
 have f:=O ((Below.refl W.heap.size W).alloc (aiv _) (.cells #[.slice A xs.length c,.slice Bi its.length d] 25));have F:=O (qD A Bi c d xs its _ (X.t.below f.o) X.r (X.e.below f.o));have J:=O (aZ.new W 25 #[.slice A xs.length c,.slice Bi its.length d]);have w:eP ⟨aj xs,its⟩ ≠ 0→aC ⟨aj xs,its⟩ xs.length k r=eP ⟨aj xs,its⟩:=fun h=>(bn (by rw [aR h];exact h)).trans (aR h)
 have u:eP ⟨aj xs,its⟩=0→k < 0∨(xs.length:Int)≤k→aC ⟨aj xs,its⟩ xs.length k r=7:=fun h h1=>by
  have e:=aK (t:=⟨aj xs,its⟩) (n:=xs.length) (i:=k) h (by unfold Mist.within;simp;omega);rw [bn (by rw [e];decide),e]
 have y:eP ⟨aj xs,its⟩=0→∀ (j:Nat) (x:NV),k=(j:Int)→xs[j]? = some x→aC ⟨aj xs,its⟩ xs.length k r=if r x.1.kind then 0 else 2:=fun h j x hj G=>by
  subst hj;have hl:=(aiq.1 G).1;rw [pI (bZ h (by unfold Mist.within;simp;omega)),aiC,aY its G]
 have HT:=O X.t;obtain⟨n,P⟩:∃ n,n=xs.length:=⟨_,rfl⟩;obtain⟨m,hm⟩:∃ m,m=its.length:=⟨_,rfl⟩;obtain⟨E,V⟩:∃ E,E=eP ⟨aj xs,its⟩:=⟨_,rfl⟩;obtain⟨N,Y⟩:∃ N,N=aC ⟨aj xs,its⟩ xs.length k r:=⟨_,rfl⟩;rw [← Y] at w u y ⊢
 rw [← P,← hm] at J F f ⊢
 rw [← V] at F w u y
 rw [← P] at u
 have pU:=O P;clear V Y P hm X;by_cases h0:E=0
 ·subst h0;have M:=O (u rfl);have C:=O (y rfl);clear w u y;by_cases h1:k < 0
  ·have B:=O (M.o (.inl h1));clear M C;go_in
   go_wp2_with fail;refine F.o.mono ?_;rintro e H⟨rfl,a⟩;have l:=O (f.o.trans (a.mono f.o.size));clear a;go_wp2_with fail;go_ret;exact⟨by rw [B.o];rfl,l.o⟩
  ·by_cases h2:(n:Int)≤k
   ·have B:=O (M.o (.inr h2));clear M C;go_in
    go_wp2_with fail;refine F.o.mono ?_;rintro e H⟨rfl,a⟩;have l:=O (f.o.trans (a.mono f.o.size));have U:H.cell? ⟨W.heap.size,0,none⟩=some (.slice A n c):=(J.o.below a J.o.lt).cell 0;clear a;go_wp2_with fail;go_ret;exact⟨by rw [B.o];rfl,l.o⟩
   ·obtain⟨j,rfl⟩:∃ j:Nat,k=(j:Int):=⟨k.toNat,by omega⟩;have L:j < n:=by omega
    obtain⟨x,G⟩:=iG (xs:=xs) (i:=j) (by rw [← pU.o];exact L);obtain⟨b,o,rfl,S⟩:=HT.o.nodes (by rw [← pU.o];omega);have R:=S.c0 j x G;have Q:=S.lt;have B:=O (C.o j x rfl G);obtain⟨q,hq⟩:∃ q,q=x.1.kind:=⟨_,rfl⟩;rw [← hq] at R B
    have T:=O (hf q);have a0:=Z q;obtain⟨z,hz⟩:∃ z,z=r q:=⟨_,rfl⟩;rw [← hz] at B T
    have HQ:=O R;have y0:(0:Int)≤(j:Int):=by omega
    have y1:(j:Int) < (n:Int):=by omega
    clear M C G S hq hz hf Z h1 h2 L R;go_in
    go_wp2_with fail;refine F.o.mono ?_;rintro e H⟨rfl,a⟩;have l:=O (f.o.trans (a.mono f.o.size));have U:H.cell? ⟨W.heap.size,0,none⟩=some (.slice (some ⟨b,o,none⟩) n c):=(J.o.below a J.o.lt).cell 0;have cq:H.cell? ⟨b,o+j * 5,none⟩=some (.int .u8 q):=(l.o.cell (p:=⟨b,_,none⟩) Q).trans HQ.o;have z1:¬ (j:Int) < 0:=by omega
    have z2:¬ (n:Int)≤(j:Int):=by omega
    clear a;go_wp2_with fail;refine (T.o _).mono ?_;rintro e w3⟨rfl,K⟩;have I:=O (l.o.trans (K.mono l.o.size));clear K U cq;cases z
    ·go_wp2_with fail;go_ret;exact⟨by rw [B.o];rfl,I.o⟩
    ·go_wp2_with fail;go_ret;exact⟨by rw [B.o];rfl,I.o⟩
 ·have B:=O (w h0);have z:(E != 0)=true:=by simpa using h0
  clear h0 w u y;go_in
  go_wp2_with fail;refine F.o.mono ?_;rintro e H⟨rfl,a⟩;have l:=O (f.o.trans (a.mono f.o.size));clear a;go_wp2_with fail;go_ret;exact⟨by rw [B.o];rfl,l.o⟩
end
end
set_option linter.all false
section
open Go.RowKit Mist
attribute [local go_sem] au aN aV aM aG
section
variable {W:World} {A Bi:Option Addr} {n c m d i:Nat} {xs:List NV} {its:List Int}
theorem bA (g:Nat)(l:List Pz)(b:∀ (q:Nat) a,Sem.run Tryz.prog (callFunc g #[.pointer (some ⟨q,0,none⟩),.int .i64 i]) a=.ok (.enter g #[.pointer (some ⟨q,0,none⟩),.int .i64 i]) a)
  (t:∀ j pv,Hid (PZ [] W.heap.size (W.heap.size+1) W j (.slice A n c) (.slice Bi m d) pv [])→Calls Tryz.prog g #[.pointer (some ⟨W.heap.size+1,0,none⟩),.int .i64 i] j (kS [] W.heap.size (W.heap.size+1) W (.slice A n c) (.slice Bi m d) (gH [] l))) :
  Calls Tryz.prog 23 #[.agg #[.slice A n c,.slice Bi m d],.int .i64 i,.func (.func g) #[] #[]] W fun e a=>∃ v,e=.returned v∧uN a v (aH false l)∧Below W.heap.size W a:=by
 have k:(W.alloc (.cells #[.slice A n c,.slice Bi m d] 25)).heap.size=W.heap.size+1:=by simp
 have h:=O (((Below.refl W.heap.size W).alloc (aiv _) (.cells #[.slice A n c,.slice Bi m d] 25)).alloc (by simp) (.cells #[.slice A n c,.slice Bi m d,.slice none 0 0] 74))
 have o:PZ [] W.heap.size (W.heap.size+1) W ((W.alloc (.cells #[.slice A n c,.slice Bi m d] 25)).alloc (.cells #[.slice A n c,.slice Bi m d,.slice none 0 0] 74)) (.slice A n c) (.slice Bi m d) (.slice none 0 0) []:=by
  have r:=aZ.new (W.alloc (.cells #[.slice A n c,.slice Bi m d] 25)) 74 #[.slice A n c,.slice Bi m d,.slice none 0 0];rw [k] at r
  exact⟨r,World.ownsRow_nil _ _ _ _,h.o,by omega,by simp;omega,fun e b=>by cases b⟩
 have u:=O (t _ _ (O o));have w:=b (W.heap.size+1);clear o h t k b;go_in
 go_wp2_with fail;refine u.o.mono ?_;rintro e y⟨x,rfl,f⟩;have B:y.cell? ⟨W.heap.size+1,2,none⟩=some x:=f.o.blk.cell 2;go_wp2_with fail;go_ret;exact⟨_,rfl,iC f.o.own (fun _ _=>aix _),f.o.IU⟩
def aI (T:Tr)(i:Nat):List Pz:=if (nd T i).kind=1∧(nd T i).n < 0 then [tz (Go.Lib.itoa (nd T i).n) (i:Int)] else ah T (T.nodes.length+2) i
theorem itoa_neg {z:Int}(h:z < 0):Go.Lib.itoa z=45 :: Go.Lib.itoa (-z):=by
 unfold Go.Lib.itoa;rw [if_pos h,if_neg (by omega),show (-z).toNat=z.natAbs by omega]
theorem bF (X:WX W A Bi n xs its)(hi:i < n)(r:eZ (nd (⟨aj xs,its⟩:Tr) i).kind=true) :
  Calls Tryz.prog 23 #[.agg #[.slice A n c,.slice Bi m d],.int .i64 i,.func (.func 35) #[] #[]] W fun e a=>∃ v,e=.returned v∧uN a v (aH false (aI ⟨aj xs,its⟩ i))∧Below W.heap.size W a:=by
 have g:CX W W.heap.size A Bi n xs its:=⟨X.t,X.len,aiv _,by have:=X.few;omega,X.pow,X.env⟩;refine bA 35 _ (fun q a=>by kernel_rfl) fun t u H=>?_
 obtain⟨x,j⟩:=iG (xs:=xs) (i:=i) (by rw [X.len];exact hi);have b:=aY its j;unfold aI;by_cases h:(nd (⟨aj xs,its⟩:Tr) i).kind=1∧(nd (⟨aj xs,its⟩:Tr) i).n < 0
 ·rw [if_pos h,b];rw [b] at h
  have o:=U5 (X.ok.right i (by rw [X.nodes];exact hi));have l:=o.num;rw [b] at l
  have h9:=aaN h.1 l;exact WH (f:=n+1) H g (GD.kx g X.ok j (by omega)) h.1 (by omega) (by omega) (by omega) (by simp)
 ·rw [if_neg h,X.nodes]
  exact WB g X.ok (n+2) i (by omega) hi r (fun k=>by
   rcases Int.lt_or_le (nd (⟨aj xs,its⟩:Tr) i).n 0 with h5 | h5
   ·exact absurd ⟨k,h5⟩ h
   ·exact h5) [] _ _ [] H (by have:=X.bits (f:=n+2) hi (by omega);simp;omega)
theorem bK (X:WX W A Bi n xs its)(hi:i < n)(b:gF (nd (⟨aj xs,its⟩:Tr) i).kind=true) :
  Calls Tryz.prog 23 #[.agg #[.slice A n c,.slice Bi m d],.int .i64 i,.func (.func 37) #[] #[]] W fun e a=>∃ v,e=.returned v∧uN a v (aH false (ah ⟨aj xs,its⟩ (n+2) i))∧Below W.heap.size W a:=by
 have g:CX W W.heap.size A Bi n xs its:=⟨X.t,X.len,aiv _,by have:=X.few;omega,X.pow,X.env⟩;refine bA 37 _ (fun q a=>by kernel_rfl) fun h j H=>?_
 exact Km g X.ok (n+2) i (by omega) hi b [] _ _ [] H (by have:=X.bits (f:=n+2) hi (by omega);simp;omega)
theorem l5 {t:Bs}{a b:Nat}(e:a≤800)(f:b≤800):jA t a=jA t b:=by
 unfold jA;by_cases h:2000 < t.length
 ·rw [if_pos (.inl h),if_pos (.inl h)]
 ·rw [if_neg (by omega),if_neg (by omega)]
theorem bR {T:Tr}{i:Nat}(a:GD T)(hi:i < T.nodes.length):Sh (aH false (aI T i))∧(aH false (aI T i)).length≤12 * (i+1)∧jA (dW (aH false (aI T i))) (aH false (aI T i)).length=jA (dW (ah T (T.nodes.length+2) i)) (ah T (T.nodes.length+2) i).length:=by
 unfold aI;by_cases h:(nd T i).kind=1∧(nd T i).n < 0
 ·rw [if_pos h];have j:=aaN h.1 (U5 (a.right i hi)).num
  have e:ah T (T.nodes.length+2) i=[tz [45] (i:Int),tz (Go.Lib.itoa (-(nd T i).n)) (-1)]:=by
   rw [ah,uq h.1];unfold gI;rw [if_pos h.2]
  have g:=(SH (n:=-(nd T i).n) (by omega) (by omega)).2.2
  refine⟨fun p b=>?_,by simp [ak];omega,?_⟩
  ·rw [List.mem_singleton.1 b]
   show (Go.Lib.itoa (nd T i).n).length≤12
   rw [itoa_neg h.2,List.length_cons];omega
  ·rw [e,show dW (aH false [tz (Go.Lib.itoa (nd T i).n) (i:Int)])=dW [tz [45] (i:Int),tz (Go.Lib.itoa (-(nd T i).n)) (-1)] by simp [dW,aH,tz,itoa_neg h.2]];exact l5 (by simp [aH]) (by simp)
 ·rw [if_neg h,(C8 a (T.nodes.length+2) i (by omega) hi).1];exact⟨wN a _ _ hi,y9 a.right a.fo (i:=i) (f:=T.nodes.length+2) hi (by omega),rfl⟩
theorem bq {T:Tr}{n:Nat}{k:Int}{a:Nat→Bool}(h:aC T n k a ≠ 0):aA T (aB T n k) k.toNat (a (nd T k.toNat).kind)=([],aC T n k a):=by
 unfold aA;unfold aC at h ⊢
 by_cases h1:aB T n k ≠ 0
 ·rw [if_pos h1,if_pos h1]
 ·rw [if_neg h1] at h ⊢
  rw [if_neg h1]
  cases b:a (nd T k.toNat).kind
  ·rw [if_pos rfl,if_neg (by simp)]
  ·rw [b,if_pos rfl] at h;exact absurd rfl h
theorem bO {T:Tr}{n:Nat}{k:Int}{e:Nat→Bool}(h:aC T n k e=0):eP T=0∧∃ i:Nat,k=(i:Int)∧i < n∧e (nd T i).kind=true ∧
  aA T (aB T n k) k.toNat (e (nd T k.toNat).kind)=((jA (dW (ah T (T.nodes.length+2) i)) (ah T (T.nodes.length+2) i).length).1,(((jA (dW (ah T (T.nodes.length+2) i)) (ah T (T.nodes.length+2) i).length).2:Nat):Int)):=by
 unfold aC at h
 by_cases h1:aB T n k ≠ 0
 ·rw [if_pos h1] at h;exact absurd h h1
 ·rw [if_neg h1] at h
  have h1:aB T n k=0:=by simpa using h1
  obtain⟨a,b,c⟩:=aD h1;obtain⟨i,rfl⟩:∃ i:Nat,k=(i:Int):=⟨k.toNat,by omega⟩;rw [aiC] at h ⊢
  cases f:e (nd T i).kind
  ·rw [f,if_neg (by simp)] at h;cases h
  ·refine⟨a,i,rfl,by omega,f,?_⟩
   unfold aA;rw [if_neg (by simp [h1]),if_neg (by simp)]
theorem o8 (X:MX W A Bi xs its)(k:Int) :
  Calls Tryz.prog 11 #[.agg #[.slice A xs.length c,.slice Bi its.length d],.int .i64 k] W fun e w=>e=.returned (.tuple #[.string (aU (aA ⟨aj xs,its⟩ (aB ⟨aj xs,its⟩ xs.length k) k.toNat (eZ (nd (⟨aj xs,its⟩:Tr) k.toNat).kind)).1),.int .i64 (aA ⟨aj xs,its⟩ (aB ⟨aj xs,its⟩ xs.length k) k.toNat (eZ (nd (⟨aj xs,its⟩:Tr) k.toNat).kind)).2])∧Below W.heap.size W w:=by
 have a:=O ((Below.refl W.heap.size W).alloc (aiv _) (.cells #[.slice A xs.length c,.slice Bi its.length d] 25));have o:=O (pJ (c:=c) (d:=d) (X.below a.o) k 33 eZ (fun q w=>by kernel_rfl) zq);have B:=O (aZ.new W 25 #[.slice A xs.length c,.slice Bi its.length d]);have G:(⟨aj xs,its⟩:Tr).nodes.length=xs.length:=by simp [aj]
 obtain⟨R,g⟩:∃ R,R=aA ⟨aj xs,its⟩ (aB ⟨aj xs,its⟩ xs.length k) k.toNat (eZ (nd (⟨aj xs,its⟩:Tr) k.toNat).kind):=⟨_,rfl⟩;rw [← g];by_cases h0:aC ⟨aj xs,its⟩ xs.length k eZ=0
 ·obtain⟨h1,i,rfl,F,J,e⟩:=bO h0;rw [h0] at o
  rw [e] at g
  have h:=X.wx h1;have H:=O h.1;have u:=h.1.ok;have x:=bR u (i:=i) (by rw [G];exact F);have E:=O fun w (U:Below W.heap.size W w)=>bF (c:=c) (m:=its.length) (d:=d) (h.1.below U) F J
  have h8:=H.o.few;have D:=O (show Sh (aH false (aI ⟨aj xs,its⟩ i))∧(aH false (aI ⟨aj xs,its⟩ i)).length≤100000 from ⟨x.1,by have:=x.2.1;omega⟩);rw [← x.2.2] at g
  clear x h8
  generalize aH false (aI ⟨aj xs,its⟩ i)=l at E D g
  obtain⟨n,L⟩:∃ n,n=xs.length:=⟨_,rfl⟩;obtain⟨m,K⟩:∃ m,m=its.length:=⟨_,rfl⟩;rw [← L,← K] at B o a E ⊢
  have C:=O g;clear L K g X e h0 h1 F J h G u H;go_in
  go_wp2_with fail;refine o.o.mono ?_;rintro e y⟨rfl,b⟩;have f:=O (a.o.trans (b.mono a.o.size));have P:=O (B.o.below b B.o.lt);have S:y.cell? ⟨W.heap.size,0,none⟩=some (.slice A n c):=P.o.cell 0;have T:y.cell? ⟨W.heap.size,1,none⟩=some (.slice Bi m d):=P.o.cell 1;clear b;go_wp2_with fail;refine (E.o y f.o).mono ?_;rintro e Y⟨v,rfl,M,r⟩;have j:=O (f.o.trans (r.mono f.o.size));have Q:=O M;clear r M S T;go_wp2_with fail;refine (abt Q.o D.o.1 (by have:=D.o.2;omega)).mono ?_;rintro e Z⟨rfl,t⟩;have V:=O (j.o.trans (t.mono j.o.size));clear t;go_wp2_with fail;go_ret2
  exact⟨by rw [C.o];rfl,V.o⟩
 ·rw [bq h0] at g
  obtain⟨N,I⟩:∃ N,N=aC ⟨aj xs,its⟩ xs.length k eZ:=⟨_,rfl⟩;rw [← I] at h0 g o
  have z:(N != 0)=true:=by simpa using h0
  have C:=O g;clear I h0 X g G;go_in
  go_wp2_with fail;refine o.o.mono ?_;rintro e y⟨rfl,b⟩;have f:=O (a.o.trans (b.mono a.o.size));clear b;go_wp2_with fail;go_ret2
  exact⟨by rw [C.o];rfl,f.o⟩
theorem sH (X:MX W A Bi xs its)(k:Int) :
  Calls Tryz.prog 12 #[.agg #[.slice A xs.length c,.slice Bi its.length d],.int .i64 k] W fun e C=>e=.returned (.tuple #[.string (aU (aA ⟨aj xs,its⟩ (aB ⟨aj xs,its⟩ xs.length k) k.toNat (gF (nd (⟨aj xs,its⟩:Tr) k.toNat).kind)).1),.int .i64 (aA ⟨aj xs,its⟩ (aB ⟨aj xs,its⟩ xs.length k) k.toNat (gF (nd (⟨aj xs,its⟩:Tr) k.toNat).kind)).2])∧Below W.heap.size W C:=by
 have a:=O ((Below.refl W.heap.size W).alloc (aiv _) (.cells #[.slice A xs.length c,.slice Bi its.length d] 25));have t:=O (pJ (c:=c) (d:=d) (X.below a.o) k 36 gF (fun q C=>by kernel_rfl) tq);have E:=O (aZ.new W 25 #[.slice A xs.length c,.slice Bi its.length d]);have y:(⟨aj xs,its⟩:Tr).nodes.length=xs.length:=by simp [aj]
 obtain⟨R,h⟩:∃ R,R=aA ⟨aj xs,its⟩ (aB ⟨aj xs,its⟩ xs.length k) k.toNat (gF (nd (⟨aj xs,its⟩:Tr) k.toNat).kind):=⟨_,rfl⟩;rw [← h];by_cases h0:aC ⟨aj xs,its⟩ xs.length k gF=0
 ·obtain⟨h1,i,rfl,x,J,e⟩:=bO h0;rw [h0] at t
  rw [e] at h
  have j:=X.wx h1;have H:=O j.1;have o:=j.1.ok;have B:=O fun C (U:Below W.heap.size W C)=>bK (c:=c) (m:=its.length) (d:=d) (j.1.below U) x J
  rw [(C8 o (xs.length+2) i (by omega) (by rw [y];exact x)).1] at B
  have G:=O (show Sh (ah ⟨aj xs,its⟩ (xs.length+2) i)∧(ah ⟨aj xs,its⟩ (xs.length+2) i).length≤100000 from ⟨wN o _ _ (by rw [y];exact x),by have:=H.o.bits (f:=xs.length+2) x (by omega);omega⟩);rw [y] at h
  generalize ah ⟨aj xs,its⟩ (xs.length+2) i=l at B G h
  obtain⟨n,L⟩:∃ n,n=xs.length:=⟨_,rfl⟩;obtain⟨m,K⟩:∃ m,m=its.length:=⟨_,rfl⟩;rw [← L,← K] at E t a B ⊢
  have F:=O h;clear L K h X e h0 h1 x J j y o H;go_in
  go_wp2_with fail;refine t.o.mono ?_;rintro e D⟨rfl,b⟩;have g:=O (a.o.trans (b.mono a.o.size));have P:=O (E.o.below b E.o.lt);have S:D.cell? ⟨W.heap.size,0,none⟩=some (.slice A n c):=P.o.cell 0;have T:D.cell? ⟨W.heap.size,1,none⟩=some (.slice Bi m d):=P.o.cell 1;clear b;go_wp2_with fail;refine (B.o D g.o).mono ?_;rintro e Y⟨v,rfl,M,u⟩;have r:=O (g.o.trans (u.mono g.o.size));have Q:=O M;clear u M S T;go_wp2_with fail;refine (abt Q.o G.o.1 (by have:=G.o.2;omega)).mono ?_;rintro e Z⟨rfl,w⟩;have V:=O (r.o.trans (w.mono r.o.size));clear w;go_wp2_with fail;go_ret2
  exact⟨by rw [F.o];rfl,V.o⟩
 ·rw [bq h0] at h
  obtain⟨N,I⟩:∃ N,N=aC ⟨aj xs,its⟩ xs.length k gF:=⟨_,rfl⟩;rw [← I] at h0 h t
  have z:(N != 0)=true:=by simpa using h0
  have F:=O h;clear I h0 X h y;go_in
  go_wp2_with fail;refine t.o.mono ?_;rintro e D⟨rfl,b⟩;have g:=O (a.o.trans (b.mono a.o.size));clear b;go_wp2_with fail;go_ret2
  exact⟨by rw [F.o];rfl,g.o⟩
end
end
set_option linter.all false
end Go.Proofs.YtajfdjikimiapaaGreatDoor
namespace Mist
structure bg (ns:List Nd) (k:Int) (u j:Nat) (x:Nd):Prop where
 hx:ns[u]? = some x
 hj:x.kids[j]? = some k
 before:∀ i,i < u→∀ y,ns[i]? = some y→∀ (q:Nat) z,y.kids[q]? = some z→z ≠ k
 first:∀ (q:Nat) z,q < j→x.kids[q]? = some z→z ≠ k
theorem bN {k:Int}:∀ (l:List Int),k ∈ l→∃ j,l[j]? = some k∧∀ (q:Nat) z,q < j→l[q]? = some z→z ≠ k
 | a :: r,h=>by
  by_cases e:a=k
  ·exact⟨0,by rw [e];rfl,fun q z b=>absurd b (by omega)⟩
  ·obtain⟨j,h1,h2⟩:=bN r (by rcases List.mem_cons.1 h with rfl | h;exact absurd rfl e;exact h)
   refine⟨j+1,by simpa using h1,fun q z b f=>?_⟩
   cases q with
   | zero => have : a = z := by simpa using f
             rw [← this];exact e
   | succ q=>exact h2 q z (by omega) (by simpa using f)
theorem eX {ns:List Nd}{k:Int}:∀ (m:Nat),(∃ x,ns[m]? = some x∧k ∈ x.kids)→∃ u j x,bg ns k u j x:=by
 intro m
 induction m using Nat.strongRecOn with
 | _ m f =>
  intro ⟨x,hx,hk⟩;by_cases h:∃ i,i < m∧∃ y,ns[i]? = some y∧k ∈ y.kids
  ·obtain⟨i,a,hy⟩:=h;exact f i a hy
  ·obtain⟨j,h1,h2⟩:=bN x.kids hk;exact⟨m,j,x,hx,h1,fun i a y hy q z b e=>h ⟨i,a,y,hy,by rw [← e];exact aiy b⟩,h2⟩
theorem sS {T:Tr}(a:Cu T){i:Nat}(hi:i < T.nodes.length)(b:eZ (nd T i).kind=true):∃ u j x,bg T.nodes (i:Int) u j x:=by
 rcases a.fo.parent i (aix _) hi with h | ⟨m,y,_,_,h1,h2⟩
 ·have h3:=a.item _ h;rw [aiC] at h3
  unfold dB at h3
  unfold eZ at b
  simp at h3 b
  omega
 ·exact eX m ⟨y,h1,h2⟩
end Mist
namespace Go.Proofs.YtajfdjikimiapaaGreatDoor
section
open Go.RowKit Mist
attribute [local go_sem] au aN aV aM aG
section
variable {W:World} {A Bi:Option Addr} {c d:Nat} {xs:List NV} {its:List Int}
theorem aL (X:MX W A Bi xs its)(yP:xs.length≤10000)(k:Int){z2:Int}{z1:Bs}(H:aA ⟨aj xs,its⟩ (aB ⟨aj xs,its⟩ xs.length k) k.toNat (eZ (nd (⟨aj xs,its⟩:Tr) k.toNat).kind)=(z1,z2)){u j:Nat}{x y:NV}(hH:z2=0→bg (aj xs) k u j x.1∧xs[u]? = some x∧∃ i:Nat,k=(i:Int)∧xs[i]? = some y) :
  Calls Tryz.prog 13 #[.agg #[.slice A xs.length c,.slice Bi its.length d],.int .i64 k] W fun e W'=>e=.returned (.tuple #[.bool (if z2=0 then !n_ x.1.kind j y.1.kind else false),.int .i64 z2])∧Below W.heap.size W W':=by
 have l:=O ((Below.refl W.heap.size W).alloc (aiv _) (.cells #[.slice A xs.length c,.slice Bi its.length d] 25));have HC:=O (o8 (c:=c) (d:=d) (X.below l.o) k);rw [H] at HC
 have HK:=O (aZ.new W 25 #[.slice A xs.length c,.slice Bi its.length d]);have HX:=O X;clear H X;by_cases h0:z2=0
 ·subst h0;obtain⟨Y,G,i0,rfl,hy⟩:=hH rfl;have I:=O Y;obtain⟨b,o,rfl,og⟩:=HX.o.t.nodes (by have:=(aiq.1 G).1;omega);have HN:=O og;have Aq:=O G;have Aw:=O hy;have a1:=(aiq.1 G).1;have a5:=og.lt;obtain⟨n,hn⟩:∃ n,n=xs.length:=⟨_,rfl⟩;obtain⟨m,hm⟩:∃ m,m=its.length:=⟨_,rfl⟩;rw [← hn,← hm] at HK HC l ⊢
  rw [← hn] at a1 yP
  have pU:=O hn;rw [if_pos rfl];clear hn hm hH Y G hy og;go_in
  go_wp2_with fail;refine HC.o.mono ?_;rintro e f⟨rfl,r⟩;have C:=O (l.o.trans (r.mono l.o.size));have yT:=O (HK.o.below r HK.o.lt);have c0:f.cell? ⟨W.heap.size,0,none⟩=some (.slice (some ⟨b,o,none⟩) n c):=yT.o.cell 0;have c1:f.cell? ⟨W.heap.size,1,none⟩=some (.slice Bi m d):=yT.o.cell 1;have Mr:=O (yT.o.alloc (.cells #[.slice (some ⟨b,o,none⟩) n c,.slice Bi m d,.slice none 0 0] 74));have zm:=O (aZ.new f 74 #[.slice (some ⟨b,o,none⟩) n c,.slice Bi m d,.slice none 0 0]);have D:=O (C.o.alloc C.o.size (.cells #[.slice (some ⟨b,o,none⟩) n c,.slice Bi m d,.slice none 0 0] 74));have e0:=Mr.o.cell 0;have e1:=Mr.o.cell 1;have N:f.heap.size+1=(f.alloc (.cells #[.slice (some ⟨b,o,none⟩) n c,.slice Bi m d,.slice none 0 0] 74)).heap.size:=by simp
  have h23:=(Below.refl f.heap.size f).alloc (aiv _) (.cells #[.slice (some ⟨b,o,none⟩) n c,.slice Bi m d,.slice none 0 0] 74);clear r;go_wp2_with fail
  generalize f.alloc (.cells #[.slice (some ⟨b,o,none⟩) n c,.slice Bi m d,.slice none 0 0] 74)=w3 at Mr zm D N h23 ⊢
  have sG:=O (show Below f.heap.size f w3 from h23);have jZ:=O N;clear e0 e1 c0 c1 C yT N h23;go_loopw [9,10,11,12,27,35] (fun _ _ _ _ iv _ wr=>∃ i:Nat,i≤u∧iv=.int .i64 i∧Hid (Below w3.heap.size w3 wr)) (fun _ _ _ _ iv _ _=>n - (intOf iv).toNat)
  case atStart=>exact⟨0,aix _,rfl,O (Below.refl _ _)⟩
  case round =>
   obtain⟨wo,rfl⟩:∃ wo:World,wo=wr:=⟨_,rfl⟩;obtain⟨i,hi,rfl,E⟩:=hrel;have V:i < n:=by omega
   have a2:=D.o.trans (E.o.mono D.o.size);obtain⟨v,hv⟩:=iG (xs:=xs) (i:=i) (by rw [← pU.o];exact V);have R:=HN.o.below a2;have k0:=R.c0 i v hv;have k1:=R.c1 i v hv;have k2:=R.c2 i v hv;have k3:=R.c3 i v hv;have k4:=R.c4 i v hv;obtain⟨Ka,kc,a3,L,Z⟩:=HN.o.kid hv;rw [a3] at k3
   have T:=O Z;have wK:=O (show (aj xs)[i]? = some v.1 from jd hv);obtain⟨⟨kd,tx,nn,ks,at_⟩,xv⟩:=v;simp only at k0 k1 k2 k3 k4 L T wK
   obtain⟨P,M⟩:∃ q,q=ks.length:=⟨_,rfl⟩;rw [← M] at k3 L
   have gW:=O M;have Jf:=O (aZ.new wo 39 #[.int .u8 (kd:Int),.string (aU tx),.int .i64 nn,.slice Ka P kc,.int .i64 at_]);have rA:=O (E.o.alloc E.o.size (.cells #[.int .u8 (kd:Int),.string (aU tx),.int .i64 nn,.slice Ka P kc,.int .i64 at_] 39));have n3:=Jf.o.cell 3;have y0:(0:Int)≤(i:Int):=by omega
   have y1:(i:Int) < (n:Int):=by omega
   clear hv a3 Z R M a2;go_wp2_with fail;go_loopw [11,12,35] (fun _ _ qv vU=>∃ q:Nat,q≤P∧(i=u→q≤j)∧qv=.int .i64 q∧Hid (Below w3.heap.size w3 vU)) (fun _ _ qv _=>P - (intOf qv).toNat)
   case atStart=>exact⟨0,aix _,fun _=>aix _,rfl,rA⟩
   case round =>
    clear E rA Jf k0 k1 k2 k3 k4 n3;obtain⟨q,hq,a,rfl,E⟩:=hrel;have Aj:=O a;by_cases a0:q < P
    ·obtain⟨bk,ok,rfl,a4,J⟩:=T.o.ex (by rw [← gW.o];omega);obtain⟨s,Q⟩:∃ s,ks[q]? = some s:=⟨_,aip (by rw [← gW.o];exact a0)⟩;have F:=D.o.trans (E.o.mono D.o.size);have cj:=(F.cell (p:=⟨bk,ok+q,none⟩) a4).trans (J q s Q);have j1:(0:Int)≤(q:Int):=by omega
     have j2:(q:Int) < (P:Int):=by omega
     by_cases H:s=(i0:Int)
     ·have K:i=u:=by
       rcases Nat.lt_or_ge i u with h | h
       ·exact absurd H (I.o.before i h _ wK.o q s Q)
       ·omega
      subst K;have t:x.1=⟨kd,tx,nn,ks,at_⟩:=aiB (I.o.hx.symm.trans wK.o)
      have a6:q=j:=by
       have h1:=a rfl;rcases Nat.lt_or_ge q j with h | h
       ·exact absurd H (I.o.first q s h (by rw [t];exact Q))
       ·omega
      subst a6 H;have I8:=O (acB (S:=[]) (B:=f.heap.size) (g:=f.heap.size) (w:=f) (W:=wr) (iv:=.slice Bi m d) (pv:=.slice none 0 0) (ps:=[]) ⟨zm.o.below E.o zm.o.lt,World.ownsRow_nil _ _ _ _,sG.o.trans (E.o.mono sG.o.size),aiv _,Nat.le_trans sG.o.size E.o.size,fun e he=>by cases he⟩ (HX.o.t.below F) pU.o.symm Aq.o I.o.hj Aw.o);have vZ:=O F;have e1:((i0:Int) == (i0:Int))=true:=by simp
      clear t Q J F a;go_wp2_with fail;refine I8.o.mono ?_;rintro e w5⟨rfl,U⟩;have b_:=O (vZ.o.trans (U.mono vZ.o.size));clear U cj;go_wp2_with fail;go_ret2
      exact⟨rfl,b_.o⟩
     ·have e1:(s == (i0:Int))=false:=by simpa using H
      have pO:=O (show i=u→q+1≤j from fun h=>by
       have h1:=a h;subst h;have t:x.1=⟨kd,tx,nn,ks,at_⟩:=aiB (I.o.hx.symm.trans wK.o);rcases Nat.lt_or_ge q j with h | h
       ·omega
       ·exfalso
        have h2:=I.o.hj;have h3:q=j:=by omega
        rw [t,← h3] at h2
        exact H (aiB (Q.symm.trans h2)))
      clear Q J F a H;go_wp2_with fail;exact⟨⟨q+1,by omega,pO.o,by go_num,E⟩,by simp [intOf];omega⟩
    ·have K:i < u:=by
      rcases Nat.lt_or_ge i u with h | h
      ·exact h
      ·exfalso
       have h1:=a (by omega);have h4:i=u:=by omega
       subst h4;have t:x.1=⟨kd,tx,nn,ks,at_⟩:=aiB (I.o.hx.symm.trans wK.o);have h2:=(aiq.1 I.o.hj).1;rw [t] at h2
       have h3:=gW.o;simp only at h2
       omega
     have e1:¬ (q:Int) < (P:Int):=by omega
     have HM:=O (show i+1≤u∧n - (i+1) < n - i by omega);have Ba:i≤10000:=by omega
     clear a K hq a0 hi V L a1 a5 y0 y1 Aj;go_wp2_with fail;exact⟨⟨i+1,HM.o.1,by go_num,E⟩,by simp only [intOf];have:=HM.o.2;omega⟩
 ·have z:(z2 != 0)=true:=by simpa using h0
  rw [if_neg h0];clear hH h0;go_in
  go_wp2_with fail;refine HC.o.mono ?_;rintro e f⟨rfl,r⟩;have C:=O (l.o.trans (r.mono l.o.size));clear r;go_wp2_with fail;go_ret2
  exact⟨rfl,C.o⟩
end
end
