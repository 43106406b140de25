/-
  A part of the proof.
-/
import Derived.RangeFuncNested
import Derived.RangeFuncBound
import Derived.Shelf.RegionOpen
import Derived.OwnWalkIn
import Derived.LoopNIn
import Derived.LoopIn
import Derived.Test.YtalghggmkojblaaGreatDoorS36
set_option linter.all false
set_option maxRecDepth 100000
set_option maxHeartbeats 4000000
namespace Go.Proofs.YtalghggmkojblaaGreatDoor
section
open Go.RowKit Mist
attribute [local go_sem] ak aN aV aF aj
theorem su.set {g b i:Nat}{u:Value}{w:World}{v:Value}{xs:List NV}{a:List Int}(h:su g w v xs a)(c:b < g):su g (w.setCell ⟨b,i,none⟩ u) v xs a:=by
 obtain⟨⟨nv,iv,q,rfl,h1,rfl,h2⟩,d⟩:=h;exact⟨⟨nv,iv,_,rfl,kN h1 c,rfl,kN h2 (by omega)⟩,fun x e=>kN (d x e) (by omega)⟩
theorem su.below {g:Nat}{w c:World}{v:Value}{xs:List NV}{a:List Int}(h:su g w v xs a)(b:Below w.heap.size w c):su g c v xs a:=by
 obtain⟨⟨nv,iv,q,rfl,h1,rfl,h2⟩,d⟩:=h;exact⟨⟨nv,iv,_,rfl,own_below h1 b,rfl,own_below h2 b⟩,fun x e=>own_below (d x e) b⟩
structure zB (T:Tr):Prop where
 wf:Wf T.nodes
 choose:∀ x ∈ T.nodes,oJ T x
 kids:∀ x ∈ T.nodes,x.kids.length≤1000000
 len:T.nodes.length≤1000
def iH (T:Tr):Int × Int :=
 if Mist.large T=true∨30 < sQ T then (0,5)
 else if 0≤outT T then ((nd T (outT T).toNat).at_,3) else (0,0)
def adJ (T:Tr)(w:World)(e:Ending)(w':World):Prop :=
 Below w.heap.size w w'∧((iH T).2 ≠ 0∧e=.returned (.tuple #[.agg #[.slice none 0 0,.slice none 0 0],.int .i64 (iH T).1,.int .i64 (iH T).2]) ∨
  (iH T).2=0∧∃ v xs g,e=.returned (.tuple #[v,.int .i64 0,.int .i64 0])∧aH xs=T.nodes∧w.heap.size≤g∧su g w' v xs T.items)
theorem aeB {T:Tr}(h:0≤outT T):outT T < (T.nodes.length:Int):=by
 unfold outT yB at h ⊢
 rcases a:T.nodes.findIdx? (fun x=>!Mist.sized T x) with _ | i
 ·rw [a] at h;exact absurd h (by decide)
 ·rw [List.findIdx?_eq_some_iff_getElem] at a
  obtain⟨b,_⟩:=a
  show (i:Int) < (T.nodes.length:Int)
  omega
theorem XW (s:Bs)(l:List Tok)(n f k:Nat)(T:Tr)(w:World)(hr:Mist.read s=(l,0,0))(hF:PF l)(hp:prog l (s.length:Int) n f 0 [] []=some (.ok T.items k T.nodes))(hE:Env w)(hl:s.length≤100000000)(hG:zB T) :
  Calls Tryz.prog 12 #[.string (aG s)] w (adJ T w):=by
 have HR:=O hr;clear hr;have HP:=O hp;clear hp;have HE:=O hE;clear hE;have HG:=O hG;clear hG;go_in
 go_wp2_with fail;refine (PD s _ (HE.o.alloc _) hl).mono ?_;rintro e w2⟨v,rfl,ht,W⟩;rw [HR.o] at ht ⊢
 have G:=O (lD W);have H:=O ((aU (Below.refl w.heap.size w) (amL _) (o:=.cells #[.slice none 0 0,.slice none 0 0] 28)).trans (W.mono (by simp)));have Z0:=O ht;clear W ht;simp only
 go_wp2_with fail;refine (XY hF (en:=(s.length:Int)) n f w2 _ Z0.o (HE.o.below H.o) HP.o).mono ?_;rintro e w3⟨v,xs,rfl,hxs,htr,X⟩;have F:=O hxs;clear hxs;have Mt:=O htr;clear htr;have Y:∀ x ∈ xs,x.1.kids.length≤1000000:=fun x hx=>HG.o.kids x.1 (by rw [← F.o];exact List.mem_map_of_mem hx)
 obtain⟨A,B,c,d,rfl,_⟩:=Mt.o.tAt Y;have Qp:=O Y;clear Y;have q:=O (G.o.below X G.o.lt);have lU:=O (H.o.trans (X.mono H.o.size));have j:=G.o.lt;clear X;have r:=q.o.cell 0;have t:=q.o.cell 1;have r0:=q.o.frozen 0;have r1:=q.o.frozen 1;have Cz:=O (show bY ((w3.setCell ⟨w.heap.size,0,none⟩ (.slice A xs.length c)).setCell ⟨w.heap.size,1,none⟩ (.slice B T.items.length d)) w.heap.size 28 #[.slice A xs.length c,.slice B T.items.length d] from by have h9:=(q.o.jX 0 (.slice A xs.length c)).jX 1 (.slice B T.items.length d);simpa using h9);have EJ:=O (show Below w.heap.size w ((w3.setCell ⟨w.heap.size,0,none⟩ (.slice A xs.length c)).setCell ⟨w.heap.size,1,none⟩ (.slice B T.items.length d)) from gQ (gQ lU.o (amL _)) (amL _));have KH:=O ((Mt.o.set (i:=0) (u:=.slice A xs.length c) j).set (i:=1) (u:=.slice B T.items.length d) j);clear Mt q lU G H Z0 HE HR HP;have Q:=O (show (aH xs).length=xs.length from dK xs);have hn1:xs.length≤1000:=by rw [← Q.o,F.o];exact HG.o.len
 obtain⟨n,hnn⟩:∃ n,n=xs.length:=⟨_,rfl⟩;obtain⟨m,Z⟩:∃ m,m=T.items.length:=⟨_,rfl⟩;rw [← hnn] at Cz EJ KH hn1 ⊢
 rw [← Z] at Cz EJ KH ⊢
 have M:=O hnn;clear hnn;have xu:=O Z;clear Z;have HLG:=O (show ow n m=Mist.large T by unfold ow Mist.large;rw [M.o,xu.o,← Q.o,F.o]);have xM:=O (show (⟨aH xs,T.items⟩:Tr)=T by rw [F.o]);go_wp2_with fail
 generalize ((w3.setCell ⟨w.heap.size,0,none⟩ (.slice A n c)).setCell ⟨w.heap.size,1,none⟩ (.slice B m d))=w4 at Cz EJ KH ⊢
 refine (JJ A B n m c d _).mono ?_;rintro e w5⟨rfl,J⟩;rw [HLG.o];have I:=O (Cz.o.below J Cz.o.lt);have qZ:=O (EJ.o.trans (J.mono EJ.o.size));have KI:=O (KH.o.below J);clear J r t r0 r1;have r:=I.o.cell 0;have t:=I.o.cell 1;have r0:=I.o.frozen 0;have r1:=I.o.frozen 1;have hq5:=I.o.lt
 cases Xq:Mist.large T
 case true =>
  have L:=O (show iH T=(0,5) by unfold iH;rw [if_pos (Or.inl Xq)]);clear Xq;go_wp2_with fail;refine bodyPost_ret (v:=.tuple #[.agg #[.slice none 0 0,.slice none 0 0],.int .i64 0,.int .i64 5]) (by simp [results,Tryz.f12,go_sem,r,t]) rfl ⟨?_,.inl ⟨by rw [L.o];decide,by rw [L.o]⟩⟩
  repeat (first|(with_reducible exact qZ.o)|(with_reducible refine gQ ?_ ?_) | omega)
 have HLX:=O Xq;clear Xq
 have N:=O (by
  have h9:=zT A B c m d xs T.items w5 (by
   obtain⟨A',B',c',d',hv,h8⟩:=KI.o.tAt Qp.o;injection hv with hv
   injection hv with hv
   injection hv with C a
   injection C with hA
   injection a with a _
   injection a with hB
   subst hA;subst hB;exact h8) (by rw [← M.o];omega) (by rw [F.o];exact HG.o.wf)
  rw [← M.o,show nu (aH xs)=sQ T by unfold sQ;rw [F.o]] at h9
  exact h9)
 obtain⟨D,hD⟩:∃ D,D=sQ T:=⟨_,rfl⟩;rw [← hD] at N
 have HDD:=O hD;clear hD;by_cases WZ:30 < D
 ·have e30:decide (30 < D)=true:=amW WZ;have L:=O (show iH T=(0,5) by unfold iH;rw [if_pos (Or.inr (by rw [← HDD.o];exact WZ))]);go_wp2_with fail;refine N.o.mono ?_;rintro e w6⟨rfl,h⟩;have y:=O (I.o.below h I.o.lt);have sI:=O (qZ.o.trans (h.mono qZ.o.size));clear h r t r0 r1;have r:=y.o.cell 0;have t:=y.o.cell 1;have r0:=y.o.frozen 0;have r1:=y.o.frozen 1;go_wp2_with fail;refine bodyPost_ret (v:=.tuple #[.agg #[.slice none 0 0,.slice none 0 0],.int .i64 0,.int .i64 5]) (by simp [results,Tryz.f12,go_sem,r,t]) rfl ⟨?_,.inl ⟨by rw [L.o];decide,by rw [L.o]⟩⟩
  repeat (first|(with_reducible exact sI.o)|(with_reducible refine gQ ?_ ?_) | omega)
 have e30:decide (30 < D)=false:=amX WZ;have H30:=O (show sQ T≤30 by rw [← HDD.o];omega);clear WZ;go_wp2_with fail;refine N.o.mono ?_;rintro e w6⟨rfl,h⟩;have y:=O (I.o.below h I.o.lt);have sI:=O (qZ.o.trans (h.mono qZ.o.size));have U:=O (KI.o.below h);clear h r t r0 r1;have r:=y.o.cell 0;have t:=y.o.cell 1
 have S:=O (by
  have h9:=BO xs T.items A c B m d w6 (by
   obtain⟨A',B',c',d',hv,h8⟩:=U.o.tAt Qp.o;injection hv with hv
   injection hv with hv
   injection hv with C a
   injection C with hA
   injection a with a _
   injection a with hB
   subst hA;subst hB;exact h8) (by rw [← M.o];omega) (by rw [F.o];exact HG.o.choose)
  rw [← M.o,xM.o] at h9
  exact h9)
 obtain⟨g,hO⟩:∃ g,g=outT T:=⟨_,rfl⟩;rw [← hO] at S
 have R:=O hO;clear hO;have L:=O (show iH T=if 0≤g then ((nd T g.toNat).at_,3) else (0,0) by unfold iH;rw [if_neg (by rw [HLX.o];have h9:=H30.o;simp;omega),← R.o]);by_cases h0:0≤g
 ·have e0:decide (0≤g)=true:=amW h0;go_wp2_with fail;refine S.o.mono ?_;rintro e w7⟨rfl,K⟩;have E:=O (y.o.below K y.o.lt);have P:=O (sI.o.trans (K.mono sI.o.size));have V:=O (U.o.below K);clear K r t;have r:=E.o.cell 0;have t:=E.o.cell 1;have r0:=E.o.frozen 0;have r1:=E.o.frozen 1;have hol:=aeB (T:=T) (by rw [← R.o];exact h0);rw [← R.o,← F.o,Q.o,← M.o] at hol
  obtain⟨On,hOn⟩:∃ On:Nat,g=(On:Int):=⟨g.toNat,by omega⟩;obtain⟨x,hx⟩:∃ x,xs[On]? = some x:=nE (by rw [← M.o];omega)
  have HXX:=O (show iH T=(x.1.at_,3) by
   rw [L.o,if_pos h0,hOn,amS];have h9:=bD T.items hx;rw [F.o] at h9
   rw [← h9])
  have hT7:uZ w7 A B xs T.items:=by
   obtain⟨A',B',c',d',hv,h8⟩:=V.o.tAt Qp.o;injection hv with hv
   injection hv with hv
   injection hv with C a
   injection C with hA
   injection a with a _
   injection a with hB
   subst hA;subst hB;exact h8
  obtain⟨b,o,rfl,hN⟩:=hT7.nodes (by rw [← M.o];omega);have c4:=hN.c4 On x hx;have hbl:=hN.lt;subst hOn;have i1:(0:Int)≤(On:Int):=by omega
  clear hN hT7 hx;go_wp2_with fail;go_region
  all_goals
   go_wp2_with fail;have hz:=(E.o.jX 0 (.slice none 0 0)).jX 1 (.slice none 0 0);have z0:=hz.cell 0;have z1:=hz.cell 1;refine bodyPost_ret (v:=.tuple #[.agg #[.slice none 0 0,.slice none 0 0],.int .i64 x.1.at_,.int .i64 3]) (by simp [results,Tryz.f12,go_sem,z0,z1]) rfl ⟨?_,.inl ⟨by rw [HXX.o];show (3:Int) ≠ 0;decide,by rw [HXX.o]⟩⟩
   repeat (first|(with_reducible exact P.o)|(with_reducible refine gQ ?_ ?_)|(with_reducible refine Below.drew ?_) | omega)
 ·have e0:decide (0≤g)=false:=amX h0;have ME:=O (show iH T=(0,0) by rw [L.o,if_neg h0]);go_wp2_with fail;refine S.o.mono ?_;rintro e w7⟨rfl,K⟩;have E:=O (y.o.below K y.o.lt);have P:=O (sI.o.trans (K.mono sI.o.size));have V:=O (U.o.below K);clear K r t;have r:=E.o.cell 0;have t:=E.o.cell 1;have r0:=E.o.frozen 0;have r1:=E.o.frozen 1;go_wp2_with fail;have hz:=(E.o.jX 0 (.slice A n c)).jX 1 (.slice B m d);have z0:=hz.cell 0;have z1:=hz.cell 1;have HTF:=O ((V.o.set (i:=0) (u:=.slice A n c) j).set (i:=1) (u:=.slice B m d) j);refine bodyPost_ret (v:=.tuple #[.agg #[.slice A n c,.slice B m d],.int .i64 0,.int .i64 0]) (by simp [results,Tryz.f12,go_sem,z0,z1]) rfl ⟨?_,.inr ⟨by rw [ME.o],_,xs,w2.heap.size,rfl,F.o,by omega,HTF.o⟩⟩
  repeat (first|(with_reducible exact P.o)|(with_reducible refine gQ ?_ ?_) | omega)
end
section
open Go.RowKit Mist
def vB (T:Tr)(X E:Int)(w:World)(e:Ending)(w':World):Prop :=
 Below w.heap.size w w'∧∃ (A B:Option Addr) (c d:Nat) (xs:List NV),e=.returned (.tuple #[.agg #[.slice A xs.length c,.slice B T.items.length d],.int .i64 X,.int .i64 E])∧aH xs=T.nodes∧uZ w' A B xs T.items
end
set_option linter.all false
section
open Go.RowKit Mist
attribute [local go_sem] ak aN aV aF aj
def qg (T:Tr)(X E:Int):Bs × Int × Int:=if E ≠ 0 then ([],X,E) else ((Cc T).1,0,((Cc T).2:Nat))
def Parsed (T:Tr)(X E:Int):Prop:=E ≠ 0∨E=0∧X=0∧fV T=0∧FL T.nodes
theorem Mg {T:Tr}{xs:List NV}(h:aH xs=T.nodes):T=⟨aH xs,T.items⟩:=by cases T;simp at h;rw [h]
theorem aao {W:World}{s:Bs}{T:Tr}{X E:Int}(q:∀ w,Env w→Calls Tryz.prog 12 #[.string (aG s)] w (vB T X E w))(Q:Parsed T X E)(K:Env W)(R:Pow W) :
  Calls Tryz.prog 11 #[.string (aG s)] W fun e W'=>e=.returned (.tuple #[.string (aG (qg T X E).1),.int .i64 (qg T X E).2.1,.int .i64 (qg T X E).2.2])∧Below W.heap.size W W':=by
 have U:=O (q W K);have S:=O K;have Y:=O R;have V:=O Q;clear q K R Q;go_in
 go_wp2_with fail;refine U.o.mono ?_;rintro e w1⟨a,A,B,c,d,xs,rfl,l,J⟩;have u:=O J;have r:=O a;have N:=O (bY.new w1 28 #[.slice A xs.length c,.slice B T.items.length d]);have t:=O (a.alloc a.size (.cells #[.slice A xs.length c,.slice B T.items.length d] 28));have F:=O ((Below.refl w1.heap.size w1).alloc (amL _) (.cells #[.slice A xs.length c,.slice B T.items.length d] 28));have D:=O (Mg l);obtain⟨g,b⟩:∃ g,g=T.items:=⟨_,rfl⟩;obtain⟨n,y⟩:∃ n,n=xs.length:=⟨_,rfl⟩;obtain⟨m,x⟩:∃ m,m=g.length:=⟨_,rfl⟩;rw [← b] at D u N t F ⊢
 rw [← y,← x] at N t F ⊢
 by_cases h0:E=0
 ·have L:qg T X E=((Cc T).1,0,(((Cc T).2:Nat):Int)):=by unfold qg;rw [if_neg (by simp [h0])]
  have M:X=0∧fV T=0∧FL T.nodes:=by rcases V.o with h | h;exact absurd h0 h;exact h.2
  have f:=M.2;rw [D.o] at f
  have KX:Rs w1 A B xs g:=⟨u.o,f.2,S.o.below r.o,Y.o.on r.o⟩;have C:=KX.wx f.1;have i:=O C;have Z:=O M.1;have HN:=O y;have HM:=O x;obtain⟨P,q⟩:∃ P,P=Cc T:=⟨_,rfl⟩;have j:=q;rw [D.o] at j
  have k:=Ye (c:=c) (d:=d) (i.o.1.below F.o) rfl i.o.2.2 (by have:=i.o.2.1;omega);rw [← y,← x,← j] at k
  rw [← q] at L
  have I:=O L;have H:=O k;subst h0;clear a l J b y x L M f KX C k q j D;go_wp2_with fail;refine H.o.mono ?_;rintro e w3⟨rfl,v⟩;have G:=O (t.o.trans (v.mono t.o.size));clear v;go_wp2_with fail;go_ret3
  exact⟨by rw [I.o];rfl,G.o⟩
 ·have I:=O (show qg T X E=([],X,E) from by unfold qg;rw [if_pos h0]);have z:(E != 0)=true:=by simpa using h0
  clear a l J b y x h0;go_wp2_with fail;go_ret3
  exact⟨by rw [I.o];rfl,t.o⟩
end
section
open Go.RowKit Go.Shelf Mist
attribute [local go_sem] Oper.semAt_some
def upL (P:List Int):Nat→Int→List Nat
 | 0,_=>[]
 | f+1,n=>if n=-1 then [] else n.toNat :: upL P f (P.getD n.toNat 0)
def Zn (P:List Int):Prop:=∀ i,i < P.length→P.getD i 0=-1∨((i:Int) < P.getD i 0∧P.getD i 0 < (P.length:Int))
theorem wu {P:List Int}{f:Nat}{n:Nat}:upL P (f+1) (n:Int)=n :: upL P f (P.getD n 0):=by
 rw [upL,if_neg (by omega),amS]
theorem Ii {P:List Int}(f:Nat):upL P f (-1)=[]:=by
 cases f with
 | zero=>rfl
 | succ f=>rw [upL,if_pos rfl]
end
section
open Mist
def aan (n i:Nat)(P:List Int):Prop:=P.length=n∧∀ j,j < i→P.getD j 0=-1∨((j:Int) < P.getD j 0∧P.getD j 0 < (i:Int))
theorem GU (n i:Nat)(hi:i < n):∀ (ks:List Int) (P:List Int),(∀ k ∈ ks,0≤k∧k < (i:Int))→aan n (i+1) P→aan n (i+1) (BU (i:Int) ks P)
 | [],_,_,h=>h
 | k :: r,P,hk,h=>by
  rw [BU];refine GU n i hi r _ (fun x b=>hk x (List.mem_cons_of_mem _ b)) ⟨by rw [List.length_set];exact h.1,fun j a=>?_⟩;have h0:=hk k (List.mem_cons_self ..);rw [Ab];split
  ·rename_i h1
   right;omega
  ·exact h.2 j a
theorem JX {ns:List Nd}(b:Wf ns):∀ i,i≤ns.length→aan ns.length i (DJ ns i)
 | 0,_=>⟨by simp [DJ],fun j e=>by omega⟩
 | i+1,hi=>by
  have a:=JX b i (by omega);rw [DJ,Vw];refine GU ns.length i (by omega) _ _ ?_ ⟨by rw [List.length_set];exact a.1,fun j e=>?_⟩
  ·intro k c;obtain⟨x,d⟩:∃ x,ns[i]? = some x:=⟨_,amF (by omega)⟩;rw [d] at c
   exact b i x d k c
  ·rw [Ab];split
   ·exact .inl rfl
   ·rename_i h1
    have f:=a.1;rcases a.2 j (by omega) with h2 | h2
    ·exact .inl h2
    ·right;omega
theorem Ae {ns:List Nd}(a:Wf ns):Zn (eD ns)∧(eD ns).length=ns.length:=by
 have h:=JX a ns.length (amL _)
 refine⟨fun i hi=>?_,h.1⟩
 unfold eD at hi ⊢
 rw [h.1] at hi ⊢
 exact h.2 i hi
end
section
open Go.RowKit Mist
attribute [local go_sem] ak aN aV aF aj
def iP (x:Nd):Nd:=⟨x.kind,x.text,x.n,x.kids,0⟩
theorem VN {c:Type}{l r:List c}{k:Nat}{a b:c}(h1:l[k]? = some a)(h2:r[k]? = some b)(h:a ≠ b):l ≠ r:=by
 rintro rfl;exact h (amR (h1.symm.trans h2))
end
section
open Go.RowKit Mist
theorem JS.put {g:Nat}{w:World}{tb:Nat}{nv iv:Value}{xs:List NV}{a:List Int}(h:JS g w tb nv iv xs a)(i:Nat)(u:Value)(b:(#[nv,iv]:Array Value).setIfInBounds i u=#[nv,iv]):JS g (w.setCell ⟨tb,i,none⟩ u) tb nv iv xs a :=
 ⟨by have:=h.blk.jX i u;rwa [b] at this,h.lo,ownsRow_setCell_other h.own (aW h.own h.blk (by decide)) _,fun y hy=>ownsRow_setCell_other (h.kids y hy) (aW (h.kids y hy) h.blk (by decide)) _,ownsRow_setCell_other h.row (aW h.row h.blk (by decide)) _,h.far⟩
def kb:Bs:=[108,101,116,32,115,32,61,32,49,32,60,32,50,32,60,32,51,59]
def kc:Bs:=[99,104,111,111,115,101,32,100,58,32,51,46,46,49,59]
def kd:Bs:=[108,101,116,32,97,32,61,32,49,59,32,97,115,107,32,98,108,97,109,101,59]
def lb:List Tok:=[⟨3,[108,101,116],0⟩,⟨1,[115],4⟩,⟨4,[61],6⟩,⟨2,[49],8⟩,⟨4,[60],10⟩,⟨2,[50],12⟩,⟨4,[60],14⟩,⟨2,[51],16⟩,⟨4,[59],17⟩]
def afx (T:Tr):Bool :=
 decide (T.nodes.length≤1000) && (List.range T.nodes.length).all (fun i=>(nd T i).kids.all (fun c=>decide (0≤c) && decide (c < (i:Int)))) && T.nodes.all (fun x=>decide (x.kids.length≤1000000)) &&
 T.nodes.all (fun x=>x.kind != 40 || (match x.kids with
  | [a,b]=>decide (0≤a) && decide (0≤b) && decide (a.toNat < T.nodes.length) && decide (b.toNat < T.nodes.length) && decide (-9999≤(nd T a.toNat).n∧(nd T a.toNat).n≤9999) && decide (-9999≤(nd T b.toNat).n∧(nd T b.toNat).n≤9999)
  | _=>false))
theorem Ca {T:Tr}(h:afx T=true):zB T:=by
 unfold afx at h
 rw [amU,amU,amU] at h
 obtain⟨⟨⟨h1,h2⟩,h3⟩,h4⟩:=h;rw [amT] at h2 h3 h4
 refine⟨?_,?_,fun x d=>of_decide_eq_true (h3 x d),of_decide_eq_true h1⟩
 ·intro i x d c f
  have:=h2 i (List.mem_range.2 (amG.1 d).1)
  rw [mU d,amT] at this
  have:=this c f
  simpa using this
 ·intro x d q
  have:=h4 x d
  rw [q] at this
  rcases e:x.kids with _ | ⟨a,_ | ⟨b,_ | ⟨c,r⟩⟩⟩
  ·rw [e] at this;simp at this
  ·rw [e] at this;simp at this
  ·rw [e] at this
   simp only [bne_self_eq_false,Bool.false_or,amU,decide_eq_true_eq] at this
   obtain⟨⟨⟨⟨⟨g,j⟩,k⟩,l⟩,m⟩,n⟩:=this
   refine⟨a.toNat,b.toNat,?_,k,l,m,n⟩
   rw [Int.toNat_of_nonneg g,Int.toNat_of_nonneg j]
  ·rw [e] at this;simp at this
def aaw (n:Nd):Bool:=decide (n.kind < 256) && decide (n.text.length≤100000000) && decide (pY≤n.n∧n.n≤kV) && decide (pY≤n.at_∧n.at_≤kV) && n.kids.all (fun c=>decide (pY≤c∧c≤kV))
theorem Mf {ns:List Nd}(h:ns.all aaw=true):FL ns:=by
 intro n a
 have:=amT.1 h n a
 unfold aaw at this
 simp only [amU,decide_eq_true_eq,amT] at this
 obtain⟨⟨⟨⟨h1,h2⟩,h3⟩,h4⟩,h5⟩:=this;exact⟨h1,h2,h3,h4,h5⟩
def pfB (l:List Tok):Bool:=decide (l.length≤1000) && l.all (fun t=>(Mist.kind t.text == t.kind) && decide (t.text.length≤2000))
theorem VD {l:List Tok}(h:pfB l=true):PF l:=by
 unfold pfB at h
 rw [amU,amT] at h
 refine⟨of_decide_eq_true h.1,fun t a=>?_,fun t a=>?_⟩
 ·have:=h.2 t a
  rw [amU] at this
  exact eq_of_beq this.1
 ·have:=h.2 t a
  rw [amU] at this
  exact of_decide_eq_true this.2
theorem aei {s:Bs}{l:List Tok}{n f k:Nat}{T:Tr}(w:World)(K:Mist.read s=(l,0,0))(hF:PF l)(J:prog l (s.length:Int) n f 0 [] []=some (.ok T.items k T.nodes))(F:Env w)(I:s.length≤100000000)(u:zB T)(H:iH T=(0,0)) :
  Calls Tryz.prog 12 #[.string (aG s)] w fun e r=>Below w.heap.size w r∧∃ A B c d xs,e=.returned (.tuple #[.agg #[.slice A T.nodes.length c,.slice B T.items.length d],.int .i64 0,.int .i64 0])∧aH xs=T.nodes∧xs.length=T.nodes.length∧T.nodes.length≤c∧uZ r A B xs T.items:=by
 refine (XW s l n f k T w K hF J F I u).mono ?_;rintro e r ⟨G,⟨h1,_⟩ | ⟨_,v,xs,g,rfl,j,Q,y⟩⟩
 ·rw [H] at h1;exact absurd rfl h1
 ·have b:xs.length=T.nodes.length:=by rw [← j,dK]
  have h:∀ x ∈ xs,x.1.kids.length≤1000000:=fun x m=>u.kids x.1 (by rw [← j];exact List.mem_map_of_mem m)
  obtain⟨A,B,c,d,hv,E⟩:=y.tAt h;obtain⟨⟨nv,iv,q,a,C,_,_⟩,_⟩:=y;rw [hv] at a
  injection a with h1
  injection h1 with h2
  injection h2 with i _
  rw [← i] at C
  have P:xs.length≤c:=by
   rcases C.2 with ⟨t,L⟩ | ⟨N,cap,D,t,_,_,h3,_⟩
   ·omega
   ·injection t with _ _ M
    omega
  exact⟨G,A,B,c,d,xs,by rw [hv,b],j,b,by omega,E⟩
end
section
open Go.RowKit Mist
attribute [local go_sem] ak aN aV aF aj
def Jb (l m:List Tok)(w:World)(e:Ending)(w':World):Prop:=e=.returned (.bool (qA l m))∧Below w.heap.size w w'
theorem pW {l m:List Tok}{w a:World}{x:Bool}(h:qA l m=x)(b:Below w.heap.size w a):Jb l m w (.returned (.bool x)) a:=⟨by rw [h],b⟩
def Nj (a b:Bs)(w:World)(e:Ending)(w':World):Prop:=e=.returned (.tuple #[.bool (qR a b).1,.int .i64 (qR a b).2])∧Below w.heap.size w w'
theorem vZ {a b:Bs}{w c:World}{x p:Bool}{y:Int}{q:Nat}(h:qR a b=(p,q))(e:x=p)(hy:y=q)(d:Below w.heap.size w c):Nj a b w (.returned (.tuple #[.bool x,.int .i64 y])) c:=by
 subst e;subst hy;exact⟨by rw [h],d⟩
theorem yL (l:Bs):(Mist.read l).1.length≤800:=by
 have c:∀ (f:Nat) (l:Bs) (a:Nat) (b:List Tok),b.length≤800→(iq f l a b).1.length≤800:=by
  intro f
  induction f with
  | zero=>intro l a b h;exact h
  | succ f d =>
   intro l a b h;rw [iq];split
   ·exact h
   ·split
    ·simp
    ·split
     ·simp
     ·exact d _ _ _ (by simp;omega)
 unfold Mist.read;split
 ·simp
 ·exact c _ _ _ _ (by simp)
def je (t:Tok):List Value:=[.int .u8 t.kind,.string (aG t.text)]
def l8 (l:List Tok):List Value:=l.flatMap je
theorem F3 (l m:List Tok):l8 (l ++ m)=l8 l ++ l8 m:=by simp [l8]
def sK (w:World)(v:Value)(l:List Tok):Prop:=∃ A c,v=.slice A l.length c∧l.length≤c∧Reads w w.heap.size 2 A l.length (l8 l)
theorem sK.DF {w:World}{base:Nat}{v:Value}{l:List Tok}(h:w.ownsRow base 74 2 v l.length (l8 l)):sK w v l:=by
 rcases h.2 with ⟨hv,h0⟩ | ⟨g,cap,a,hv,_,_,b,_⟩
 ·have:l=[]:=List.eq_nil_of_length_eq_zero h0
  subst this;exact⟨none,0,hv,amL _,Reads.none_⟩
 ·exact⟨_,cap,hv,b,Reads.DF (hv ▸ h)⟩
theorem sK.none_ (w:World):sK w (.slice none 0 0) []:=⟨none,0,rfl,amL _,Reads.none_⟩
theorem sK.below {w b:World}{v:Value}{l:List Tok}(h:sK w v l)(a:Below w.heap.size w b):sK b v l:=by
 obtain⟨A,c,rfl,d,e⟩:=h;exact⟨A,c,rfl,d,(e.below a).more a.size⟩
theorem yA (l:List Tok):∀ (k j:Nat) (u:Value),k < l.length→(je (tg l k))[j]? = some u→(l8 l)[k * 2+j]? = some u:=by
 induction l with
 | nil=>intro k j u h;simp at h
 | cons t r b =>
  intro k j u h a
  have c:j < 2:=by
   have:=(amG.1 a).1
   simpa [je] using this
  have e:l8 (t :: r)=je t ++ l8 r:=by simp [l8]
  rw [e]
  cases k with
  | zero =>
   rw [List.getElem?_append_left (by simp [je];omega)]
   simpa [tg] using a
  | succ k =>
   rw [List.getElem?_append_right (by simp [je];omega)]
   have:(k+1) * 2+j - (je t).length=k * 2+j:=by simp [je];omega
   rw [this];exact b k j u (by simpa using h) (by simpa [tg] using a)
structure adt (w:World) (b o:Nat) (l:List Tok):Prop where
 lt:b < w.heap.size
 kind:∀ k,k < l.length→w.cell? ⟨b,o+k * 2,none⟩=some (.int .u8 (tg l k).kind)
 text:∀ k,k < l.length→w.cell? ⟨b,o+k * 2+1,none⟩=some (.string (aG (tg l k).text))
theorem sK.TT {w:World}{A:Option Addr}{n c:Nat}{l:List Tok}(h:sK w (.slice A n c) l)(h0:0 < l.length):∃ b o,A=some ⟨b,o,none⟩∧adt w b o l:=by
 obtain⟨t,u,hv,v,r⟩:=h;injection hv with m y q
 subst m;obtain⟨ad,rfl,g,a⟩:=r.2 h0;have e:=a 0 _ (yA l 0 0 _ h0 rfl);obtain⟨b,o,j⟩:=ad
 have i:j=none:=by
  cases j with
  | none=>rfl
  | some x =>
   exfalso
   simp only [Addr.add,if_pos] at e
   unfold World.cell? at e
   simp only [Option.isSome_some,if_true] at e
   split at e <;> simp at e
 subst i
 have d:∀ n,(⟨b,o,none⟩:Addr).add n=⟨b,o+n,none⟩:=by
  intro n;unfold Addr.add;split
  ·rename_i h;rw [h];rfl
  ·rfl
 refine⟨b,o,rfl,g,fun k f=>?_,fun k f=>?_⟩
 ·have:=a _ _ (yA l k 0 _ f rfl);rw [d] at this;exact this
 ·have:=a _ _ (yA l k 1 _ f rfl);rw [d] at this;exact this
theorem WR:(Tryz.prog.info? 74).map (fun i=>(i.zero,i.size,i.bytes))=some (some (.agg #[.int .u8 0,.string ByteArray.empty]),2,24):=by kernel_rfl
theorem IJ (t:Tok):∀ u ∈ je t,u.oneCell'=true:=by
 intro u a;simp [je] at a
 rcases a with rfl | rfl <;> rfl
def VT (l:Bs)(w:World)(e:Ending)(w':World):Prop:=∃ v,e=.returned (.tuple #[v,.int .i64 (Mist.read l).2.2])∧sK w' v (Mist.read l).1∧Below w.heap.size w w'
theorem sS (l:Bs)(w:World)(L:Env w)(U:l.length≤100000000) :
  Calls Tryz.prog 24 #[.string (aG l)] w (VT l w):=by
 have P:=O L;clear L;obtain⟨V,G,H,I,J⟩:=info_parts WR;go_in
 go_wp2_with fail;refine (PD l _ P.o U).mono ?_;rintro e w1⟨W,rfl,m,r⟩;have R:=yL l;obtain⟨A,c,rfl⟩:∃ A c,W=.slice A (Mist.read l).1.length c:=by obtain⟨A,c,h,_⟩:=m;exact⟨A,c,h⟩
 have K:=O m;clear m;have q:=O r;clear r;obtain⟨T,D⟩:∃ T,T=(Mist.read l).1:=⟨_,rfl⟩;rw [← D] at K R ⊢
 have B:=O D;clear D;go_wp2;go_loopw [2,16] (fun v i wr=>∃ n:Nat,n≤T.length∧i=.int .i64 n∧wr.ownsRow w1.heap.size 74 2 v n (l8 (T.take n))∧Below w1.heap.size w1 wr) (fun _ i _=>T.length - (intOf i).toNat)
 case atStart=>exact⟨0,amN _,rfl,World.ownsRow_nil _ _ _ _,Below.refl _ _⟩
 case round =>
  obtain⟨n,hn,rfl,d,t⟩:=hrel;obtain⟨Y,c2,rfl⟩:=dA d;have a:=O t;clear t;have y:=O d;clear d;by_cases f:n < T.length
  ·obtain⟨b,o,rfl,x⟩:=K.o.TT (by omega);have M:=(x.below a.o).kind n f;have ht:=(x.below a.o).text n f;have Z:=(x.below a.o).at_ n f;have S:=(x.below a.o).lt;have E:=a.o.size;clear x
   have Q:=O (show ∀ j u,(je (tg T n))[j]? = some u→((wr.alloc (.cells #[.int .u8 (tg T n).kind,.string (aG (tg T n).text),.int .i64 (tg T n).at_] 112)).alloc (.cells (je (tg T n)).toArray 74)).cell? ((⟨wr.heap.size+1,0,none⟩:Addr).add j)=some u by
     have h:=iK (wr.alloc (.cells #[.int .u8 (tg T n).kind,.string (aG (tg T n).text),.int .i64 (tg T n).at_] 112)) (je (tg T n)) 74;rw [World.size_alloc] at h;exact h)
   go_wp2_with (at_builtin
                refine wpList_append_own _ rfl (.tmp 20) (.tmp 26) 69 rfl w1.heap.size 74 V _ 2 24 Tryz.underlying69 G H I J rfl (by decide) _ n (l8 (T.take n)) rfl
                  ((y.o.alloc _).alloc _) ⟨wr.heap.size+1,0,none⟩ 1 1 (je (tg T n)) rfl rfl Q.o (IJ _) (by simp only [maxLen];omega) (by omega) (by simp;omega) ?_
                intro v2 X g F _)
   have C:Below w1.heap.size w1 X:=((a.o.alloc E _).alloc (by simp;omega) _).grown F (by simp;omega) (fun k M=>(y.o.lt k M).1)
   refine⟨⟨n+1,by omega,by go_num,?_,C⟩,by simp [intOf];omega⟩
   rw [ae_ T n f,F3];simpa [l8] using g
  ·go_wp2;go_ret2
   have N:=y.o;obtain rfl:n=T.length:=by omega
   rw [List.take_length] at N
   exact⟨_,rfl,by rw [← B.o];exact sK.DF N,q.o.trans (a.o.mono q.o.size)⟩
theorem IK (t u:Value)(l m:List Tok)(w:World)(h1:sK w t l)(h2:sK w u m)(M:l.length≤100000000)(E:m.length≤100000000) :
  Calls Tryz.prog 25 #[t,u] w (Jb l m w):=by
 obtain⟨K,c1,rfl⟩:∃ A c,t=.slice A l.length c:=by obtain⟨A,c,h,_⟩:=h1;exact⟨A,c,h⟩
 obtain⟨L,c2,rfl⟩:∃ A c,u=.slice A m.length c:=by obtain⟨A,c,h,_⟩:=h2;exact⟨A,c,h⟩
 have B:=O h1;clear h1;have C:=O h2;clear h2;by_cases a:l.length=m.length
 case neg =>
  have F:((l.length:Int) != (m.length:Int))=true:=by simp;omega
  have D:=O (Wq l m a);clear a;go_in
  go_wp2;go_ret;exact pW D.o (Below.refl _ _)
 have x:=O a;rw [← a];clear a;go_in
 go_wp2;go_loopw [13] (fun i wr=>∃ n q:Nat,n≤l.length∧i=.int .i64 n∧wr=w.drewN q∧∀ k,k < n→n_ (tg l k)=n_ (tg m k)) (fun i _=>l.length - (intOf i).toNat)
 case atStart=>exact⟨0,0,amN _,rfl,rfl,by intro k h;omega⟩
 case round =>
  obtain⟨n,q,N,rfl,rfl,g⟩:=hrel;have v:=O g;clear g;by_cases f:n < l.length
  ·have b:n < m.length:=by have:=x.o;omega
   obtain⟨b1,Q,rfl,r1⟩:=B.o.TT (by omega);obtain⟨b2,R,rfl,r2⟩:=C.o.TT (by omega);have y:=r1.kind n f;have J:=r1.text n f;have P:=r2.kind n b;have S:=r2.text n b;clear r1 r2;by_cases d:(tg l n).kind=(tg m n).kind
   ·by_cases j:(tg l n).text=(tg m n).text
    ·have r:=O ((KZ _ _).2 ⟨d,j⟩);rw [d] at y
     rw [j] at J
     clear d j;go_wp2;go_quiet (fail)
     go_wp2
     refine⟨⟨n+1,_,by omega,by go_num,rfl,?_⟩,by simp [intOf];omega⟩
     intro k d;rcases Nat.lt_or_ge k n with h | h
     ·exact v.o k h
     ·rw [show k=n by omega];exact r.o
    ·have r:=O (Nn l m n f b (fun e=>j ((KZ _ _).1 e).2));rw [d] at y
     have I:((tg l n).text == (tg m n).text)=false:=by simpa using j
     clear d j;go_wp2;go_quiet (fail)
     go_wp2;go_ret;exact pW r.o (mJ (mJ (Below.refl _ _) _) _)
   ·have r:=O (Nn l m n f b (fun e=>d ((KZ _ _).1 e).1));have G:(((tg l n).kind:Int) != ((tg m n).kind:Int))=true:=by simp;omega
    have H:(((tg l n).kind:Int) == ((tg m n).kind:Int))=false:=by simp;omega
    clear d;go_wp2;go_quiet (fail)
    go_wp2;go_ret;exact pW r.o (mJ (mJ (Below.refl _ _) _) _)
  ·go_wp2;go_ret;exact pW (Wp l m x.o (fun k d=>v.o k (by omega))) (mJ (Below.refl _ _) _)
theorem ai0 (a b:Bs)(w:World)(A:Env w)(v:a.length≤100000000)(B:b.length≤100000000) :
  Calls Tryz.prog 9 #[.string (aG a),.string (aG b)] w (Nj a b w):=by
 have j:=O A;clear A;by_cases h1:(Mist.read a).2.2=0
 case neg =>
  have t:(((Mist.read a).2.2:Int) != 0)=true:=by simp;omega
  have m:=O (PY a b h1);clear h1;go_in
  go_wp2_with (go_at_call 24;refine (sS a _ j.o v).mono ?_;rintro e w1⟨y,rfl,f,c⟩)
  go_ret2
  exact vZ m.o rfl rfl c
 have t:(((Mist.read a).2.2:Int) != 0)=false:=by simp;omega
 by_cases h2:(Mist.read b).2.2=0
 case neg =>
  have u:(((Mist.read b).2.2:Int) != 0)=true:=by simp;omega
  have m:=O (LX a b h1 h2);clear h1 h2;go_in
  go_wp2_with fail;refine (sS a _ j.o v).mono ?_;rintro e w1⟨y,rfl,f,c⟩;have x:=O (j.o.below c);have g:=O c;clear c;have k:=O f;clear f;go_wp2_with fail;refine (sS b _ x.o B).mono ?_;rintro e D⟨C,rfl,h,d⟩;have l:=O h;clear h;have i:=O (g.o.trans (d.mono g.o.size));clear d;go_wp2_with fail;go_ret2
  exact vZ m.o rfl rfl i.o
 have u:(((Mist.read b).2.2:Int) != 0)=false:=by simp;omega
 have m:=O (Eh a b h1 h2);clear h1 h2;go_in
 go_wp2_with fail;refine (sS a _ j.o v).mono ?_;rintro e w1⟨y,rfl,f,c⟩;have x:=O (j.o.below c);have g:=O c;clear c;have k:=O f;clear f;go_wp2_with fail;refine (sS b _ x.o B).mono ?_;rintro e D⟨C,rfl,h,d⟩;have l:=O h;clear h;have r:=O (k.o.below d);have i:=O (g.o.trans (d.mono g.o.size));clear d;go_wp2_with fail;refine (IK y C _ _ _ r.o l.o (by have:=yL a;omega) (by have:=yL b;omega)).mono ?_;rintro e E⟨rfl,n⟩;have q:=O (i.o.trans (n.mono i.o.size));clear n;go_wp2_with fail;go_ret2
 exact vZ m.o rfl rfl q.o
end
