/-
  A part of the proof.
-/
import Derived.Test.YtflnfhhgamldhaaGreatDoorS28
set_option linter.all false
set_option maxRecDepth 100000
set_option maxHeartbeats 4000000
namespace Go.Proofs.YtflnfhhgamldhaaGreatDoor
section
open Go.RowKit Mist
attribute [local go_sem] ah aM aV au ak
structure JS (g:Nat) (w:World) (tb:Nat) (nv iv:Value) (xs:List NV) (its:List Int):Prop where
 blk:bf w tb 32 #[nv,iv]
 lo:tb < g
 own:w.ownsRow g 50 5 nv xs.length (jK xs)
 kids:∀ x ∈ xs,w.ownsRow g 3 1 x.2 x.1.kids.length (intCells x.1.kids)
 row:w.ownsRow g 3 1 iv its.length (intCells its)
 far:∀ x ∈ xs,x.2.ownBlock=none∨x.2.ownBlock ≠ iv.ownBlock
theorem JS.below {g:Nat}{w c:World}{tb:Nat}{nv iv:Value}{xs:List NV}{a:List Int}(h:JS g w tb nv iv xs a)(b:Below w.heap.size w c):JS g c tb nv iv xs a :=
 ⟨h.blk.below b h.blk.lt,h.lo,own_below h.own b,fun x d=>own_below (h.kids x d) b,own_below h.row b,h.far⟩
theorem JS.add {g:Nat}{w w1:World}{tb:Nat}{nv gB iv:Value}{xs:List NV}{c:List Int}{x:NV}(h:JS g w tb nv iv xs c)(f:w.grownBy w1 nv.ownBlock)(a:w1.ownsRow g 50 5 gB (xs.length+1) (jK xs ++ iL x))(b:w.ownsRow g 3 1 x.2 x.1.kids.length (intCells x.1.kids))(i:x.2.ownBlock=none∨x.2.ownBlock ≠ iv.ownBlock):JS g (w1.setCell ⟨tb,0,none⟩ gB) tb gB iv (xs ++ [x]) c:=by
 have d:=h.blk.grown f (fun e=>bD h.own h.blk (by decide) e.symm)
 have keep:∀ {v:Value} {n:Nat} {cs:List Value},w.ownsRow g 3 1 v n cs→(w1.setCell ⟨tb,0,none⟩ gB).ownsRow g 3 1 v n cs:=fun b =>
  ownsRow_setCell_other (b.kept f (eY b h.own (by decide))) (bD (b.kept f (eY b h.own (by decide))) d (by decide)) _
 refine⟨?_,h.lo,?_,fun y hy=>?_,keep h.row,fun y hy=>?_⟩
 ·have:=d.g_ 0 gB;simpa using this
 ·rw [ak5,pY];have e:jK [x]=iL x:=by simp [jK]
  rw [e];exact ownsRow_setCell_other a (bD a d (by decide)) _
 ·rcases List.mem_append.1 hy with hy | hy
  ·exact keep (h.kids y hy)
  ·rw [List.mem_singleton.1 hy];exact keep b
 ·rcases List.mem_append.1 hy with hy | hy
  ·exact h.far y hy
  ·rw [List.mem_singleton.1 hy];exact i
theorem JS.item {g:Nat}{w w1:World}{tb:Nat}{nv iv R9:Value}{xs:List NV}{a:List Int}{q:Int}(h:JS g w tb nv iv xs a)(i:w.grownBy w1 iv.ownBlock)(c:w1.ownsRow g 3 1 R9 (a.length+1) (intCells a ++ [.int .i64 q]))(f:R9.ownBlock=iv.ownBlock∨R9.ownBlock=some w.heap.size):JS g (w1.setCell ⟨tb,1,none⟩ R9) tb nv R9 xs (a ++ [q]):=by
 have d:=h.blk.grown i (fun e=>bD h.row h.blk (by decide) e.symm);have l:=h.own.kept i (eY h.own h.row (by decide))
 refine⟨?_,h.lo,ownsRow_setCell_other l (bD l d (by decide)) _,fun y hy=>?_,?_,fun y hy=>?_⟩
 ·have:=d.g_ 1 R9;simpa using this
 ·have k:=(h.kids y hy).kept i (h.far y hy);exact ownsRow_setCell_other k (bD k d (by decide)) _
 ·rw [ak5,fU];exact ownsRow_setCell_other c (bD c d (by decide)) _
 ·rcases f with e | e
  ·rw [e];exact h.far y hy
  ·rcases h9:y.2.ownBlock with _ | b
   ·exact .inl rfl
   ·right
    rw [e];intro j
    have:=((h.kids y hy).lt b h9).2
    injection j with j
    omega
structure RowsIn (g:Nat) (w:World) (nv iv:Value) (xs:List NV) (its:List Int):Prop where
 own:w.ownsRow g 50 5 nv xs.length (jK xs)
 kids:∀ x ∈ xs,w.ownsRow g 3 1 x.2 x.1.kids.length (intCells x.1.kids)
 row:w.ownsRow g 3 1 iv its.length (intCells its)
 far:∀ x ∈ xs,x.2.ownBlock=none∨x.2.ownBlock ≠ iv.ownBlock
theorem RowsIn.below {g:Nat}{w c:World}{nv iv:Value}{xs:List NV}{a:List Int}(h:RowsIn g w nv iv xs a)(b:Below w.heap.size w c):RowsIn g c nv iv xs a :=
 ⟨own_below h.own b,fun x d=>own_below (h.kids x d) b,own_below h.row b,h.far⟩
theorem RowsIn.add {g:Nat}{w w1:World}{tb:Nat}{nv gB iv:Value}{xs:List NV}{c:List Int}{x:NV}(h:RowsIn g w nv iv xs c)(i:bf w tb 32 #[nv,iv])(f:w.grownBy w1 nv.ownBlock)(a:w1.ownsRow g 50 5 gB (xs.length+1) (jK xs ++ iL x))(b:w.ownsRow g 3 1 x.2 x.1.kids.length (intCells x.1.kids))(j:x.2.ownBlock=none∨x.2.ownBlock ≠ iv.ownBlock) :
  RowsIn g (w1.setCell ⟨tb,0,none⟩ gB) gB iv (xs ++ [x]) c∧bf (w1.setCell ⟨tb,0,none⟩ gB) tb 32 #[gB,iv]:=by
 have d:=i.grown f (fun e=>bD h.own i (by decide) e.symm)
 have keep:∀ {v:Value} {n:Nat} {cs:List Value},w.ownsRow g 3 1 v n cs→(w1.setCell ⟨tb,0,none⟩ gB).ownsRow g 3 1 v n cs:=fun b =>
  ownsRow_setCell_other (b.kept f (eY b h.own (by decide))) (bD (b.kept f (eY b h.own (by decide))) d (by decide)) _
 refine⟨⟨?_,fun y hy=>?_,keep h.row,fun y hy=>?_⟩,?_⟩
 ·rw [ak5,pY];have e:jK [x]=iL x:=by simp [jK]
  rw [e];exact ownsRow_setCell_other a (bD a d (by decide)) _
 ·rcases List.mem_append.1 hy with hy | hy
  ·exact keep (h.kids y hy)
  ·rw [List.mem_singleton.1 hy];exact keep b
 ·rcases List.mem_append.1 hy with hy | hy
  ·exact h.far y hy
  ·rw [List.mem_singleton.1 hy];exact j
 ·have:=d.g_ 0 gB;simpa using this
theorem rH.set {g b i:Nat}{u:Value}{w:World}{v:Value}{xs:List NV}{a:List Int}(h:rH g w v xs a)(c:b < g):rH g (w.setCell ⟨b,i,none⟩ u) v xs a:=by
 obtain⟨⟨nv,iv,q,rfl,h1,rfl,h2⟩,d⟩:=h;exact⟨⟨nv,iv,_,rfl,j6 h1 c,rfl,j6 h2 (by omega)⟩,fun x e=>j6 (d x e) (by omega)⟩
theorem rH.below {g:Nat}{w c:World}{v:Value}{xs:List NV}{a:List Int}(h:rH g w v xs a)(b:Below w.heap.size w c):rH g c v xs a:=by
 obtain⟨⟨nv,iv,q,rfl,h1,rfl,h2⟩,d⟩:=h;exact⟨⟨nv,iv,_,rfl,own_below h1 b,rfl,own_below h2 b⟩,fun x e=>own_below (d x e) b⟩
structure vW (T:Tr):Prop where
 wf:Wf T.nodes
 choose:∀ x ∈ T.nodes,nu T x
 kids:∀ x ∈ T.nodes,x.kids.length≤1000000
 len:T.nodes.length≤1000
def gM (T:Tr):Int × Int :=
 if Mist.large T=true∨30 < rW T then (0,5)
 else if 0≤outT T then ((nd T (outT T).toNat).at_,3) else (0,0)
def abK (T:Tr)(w:World)(e:Ending)(w':World):Prop :=
 Below w.heap.size w w'∧((gM T).2 ≠ 0∧e=.returned (.tuple #[.agg #[.slice none 0 0,.slice none 0 0],.int .i64 (gM T).1,.int .i64 (gM T).2]) ∨
  (gM T).2=0∧∃ v xs g,e=.returned (.tuple #[v,.int .i64 0,.int .i64 0])∧aF xs=T.nodes∧w.heap.size≤g∧rH g w' v xs T.items)
theorem acG {T:Tr}(h:0≤outT T):outT T < (T.nodes.length:Int):=by
 unfold outT uO at h ⊢
 rcases a:T.nodes.findIdx? (fun x=>!Mist.sized T x) with _ | i
 ·rw [a] at h;exact absurd h (by decide)
 ·rw [List.findIdx?_eq_some_iff_getElem] at a
  obtain⟨b,_⟩:=a
  show (i:Int) < (T.nodes.length:Int)
  omega
theorem Qs (s:Bs)(l:List Tok)(n f k:Nat)(w:World)(q:Mist.read s=(l,0,0))(hF:PF l)(m:prog l (s.length:Int) n f 0 [] []=some (.bad k))(j:Env w)(y:s.length≤100000000) :
  Calls Tryz.prog 8 #[.string (aH s)] w fun e B=>e=.returned (.tuple #[.agg #[.slice none 0 0,.slice none 0 0],.int .i64 (pl l (s.length:Int) k),.int .i64 4])∧Below w.heap.size w B:=by
 have x:=O q;clear q;have u:=O m;clear m;have i:=O j;clear j;go_in
 go_wp2_with fail;refine (Fb s _ (i.o.alloc _) y).mono ?_;rintro e C⟨v,rfl,h,c⟩;rw [x.o] at h ⊢
 have g:=O (gW c);have b:=O ((aG (Below.refl w.heap.size w) (ak0 _) (o:=.cells #[.slice none 0 0,.slice none 0 0] 32)).trans (c.mono (by simp)));have t:=O h;clear c h;simp only
 go_wp2_with fail;refine (Ib hF (en:=(s.length:Int)) n f C _ t.o (i.o.below b.o) u.o).mono ?_;rintro e H⟨rfl,d⟩;have a:=O (g.o.below d g.o.lt);have A:=O (b.o.trans (d.mono b.o.size));clear d;have F:=a.o.cell 0;have G:=a.o.cell 1;have r0:=a.o.frozen 0;have r1:=a.o.frozen 1;go_wp2_with fail;have r:=(((a.o.g_ 0 (.slice none 0 0)).g_ 1 (.slice none 0 0)).g_ 0 (.slice none 0 0)).g_ 1 (.slice none 0 0);have D:=r.cell 0;have E:=r.cell 1;refine bodyPost_ret (v:=.tuple #[.agg #[.slice none 0 0,.slice none 0 0],.int .i64 (pl l (s.length:Int) k),.int .i64 4]) (by simp [results,Tryz.f8,go_sem,D,E]) rfl ⟨rfl,?_⟩
 repeat (first|(with_reducible exact A.o)|(with_reducible refine eF ?_ ?_) | omega)
theorem Ia (s:Bs)(l:List Tok)(n f k:Nat)(T:Tr)(w:World)(hr:Mist.read s=(l,0,0))(hF:PF l)(hp:prog l (s.length:Int) n f 0 [] []=some (.ok T.items k T.nodes))(hE:Env w)(hl:s.length≤100000000)(hG:vW T) :
  Calls Tryz.prog 8 #[.string (aH s)] w (abK T w):=by
 have HR:=O hr;clear hr;have HP:=O hp;clear hp;have HE:=O hE;clear hE;have HG:=O hG;clear hG;go_in
 go_wp2_with fail;refine (Fb s _ (HE.o.alloc _) hl).mono ?_;rintro e w2⟨v,rfl,ht,W⟩;rw [HR.o] at ht ⊢
 have G:=O (gW W);have H:=O ((aG (Below.refl w.heap.size w) (ak0 _) (o:=.cells #[.slice none 0 0,.slice none 0 0] 32)).trans (W.mono (by simp)));have Dk:=O ht;clear W ht;simp only
 go_wp2_with fail;refine (Ib hF (en:=(s.length:Int)) n f w2 _ Dk.o (HE.o.below H.o) HP.o).mono ?_;rintro e w3⟨v,xs,rfl,hxs,htr,X⟩;have F:=O hxs;clear hxs;have V:=O htr;clear htr;have Y:∀ x ∈ xs,x.1.kids.length≤1000000:=fun x hx=>HG.o.kids x.1 (by rw [← F.o];exact List.mem_map_of_mem hx)
 obtain⟨A,B,c,d,rfl,_⟩:=V.o.tAt Y;have Ke:=O Y;clear Y;have q:=O (G.o.below X G.o.lt);have kP:=O (H.o.trans (X.mono H.o.size));have j:=G.o.lt;clear X;have r:=q.o.cell 0;have t:=q.o.cell 1;have r0:=q.o.frozen 0;have r1:=q.o.frozen 1;have qM:=O (show bf ((w3.setCell ⟨w.heap.size,0,none⟩ (.slice A xs.length c)).setCell ⟨w.heap.size,1,none⟩ (.slice B T.items.length d)) w.heap.size 32 #[.slice A xs.length c,.slice B T.items.length d] from by have h9:=(q.o.g_ 0 (.slice A xs.length c)).g_ 1 (.slice B T.items.length d);simpa using h9);have vN:=O (show Below w.heap.size w ((w3.setCell ⟨w.heap.size,0,none⟩ (.slice A xs.length c)).setCell ⟨w.heap.size,1,none⟩ (.slice B T.items.length d)) from eF (eF kP.o (ak0 _)) (ak0 _));have X7:=O ((V.o.set (i:=0) (u:=.slice A xs.length c) j).set (i:=1) (u:=.slice B T.items.length d) j);clear V q kP G H Dk HE HR HP;have P:=O (show (aF xs).length=xs.length from dL xs);have hn1:xs.length≤1000:=by rw [← P.o,F.o];exact HG.o.len
 obtain⟨n,hnn⟩:∃ n,n=xs.length:=⟨_,rfl⟩;obtain⟨m,Z⟩:∃ m,m=T.items.length:=⟨_,rfl⟩;rw [← hnn] at qM vN X7 hn1 ⊢
 rw [← Z] at qM vN X7 ⊢
 have M:=O hnn;clear hnn;have Gt:=O Z;clear Z;have HLG:=O (show ow n m=Mist.large T by unfold ow Mist.large;rw [M.o,Gt.o,← P.o,F.o]);have HTX:=O (show (⟨aF xs,T.items⟩:Tr)=T by rw [F.o]);go_wp2_with fail
 generalize ((w3.setCell ⟨w.heap.size,0,none⟩ (.slice A n c)).setCell ⟨w.heap.size,1,none⟩ (.slice B m d))=w4 at qM vN X7 ⊢
 refine (Ho A B n m c d _).mono ?_;rintro e w5⟨rfl,J⟩;rw [HLG.o];have I:=O (qM.o.below J qM.o.lt);have kQ:=O (vN.o.trans (J.mono vN.o.size));have HT5:=O (X7.o.below J);clear J r t r0 r1;have r:=I.o.cell 0;have t:=I.o.cell 1;have r0:=I.o.frozen 0;have r1:=I.o.frozen 1;have hq5:=I.o.lt
 cases UH:Mist.large T
 case true =>
  have L:=O (show gM T=(0,5) by unfold gM;rw [if_pos (Or.inl UH)]);clear UH;go_wp2_with fail;refine bodyPost_ret (v:=.tuple #[.agg #[.slice none 0 0,.slice none 0 0],.int .i64 0,.int .i64 5]) (by simp [results,Tryz.f8,go_sem,r,t]) rfl ⟨?_,.inl ⟨by rw [L.o];decide,by rw [L.o]⟩⟩
  repeat (first|(with_reducible exact kQ.o)|(with_reducible refine eF ?_ ?_) | omega)
 have HLX:=O UH;clear UH
 have WK:=O (by
  have h9:=yc A B c m d xs T.items w5 (by
   obtain⟨A',B',c',d',hv,h8⟩:=HT5.o.tAt Ke.o;injection hv with hv
   injection hv with hv
   injection hv with C a
   injection C with hA
   injection a with a _
   injection a with hB
   subst hA;subst hB;exact h8) (by rw [← M.o];omega) (by rw [F.o];exact HG.o.wf)
  rw [← M.o,show jN (aF xs)=rW T by unfold rW;rw [F.o]] at h9
  exact h9)
 obtain⟨D,hD⟩:∃ D,D=rW T:=⟨_,rfl⟩;rw [← hD] at WK
 have HDD:=O hD;clear hD;by_cases Od:30 < D
 ·have e30:decide (30 < D)=true:=ak' Od;have L:=O (show gM T=(0,5) by unfold gM;rw [if_pos (Or.inr (by rw [← HDD.o];exact Od))]);go_wp2_with fail;refine WK.o.mono ?_;rintro e w6⟨rfl,h⟩;have y:=O (I.o.below h I.o.lt);have mP:=O (kQ.o.trans (h.mono kQ.o.size));clear h r t r0 r1;have r:=y.o.cell 0;have t:=y.o.cell 1;have r0:=y.o.frozen 0;have r1:=y.o.frozen 1;go_wp2_with fail;refine bodyPost_ret (v:=.tuple #[.agg #[.slice none 0 0,.slice none 0 0],.int .i64 0,.int .i64 5]) (by simp [results,Tryz.f8,go_sem,r,t]) rfl ⟨?_,.inl ⟨by rw [L.o];decide,by rw [L.o]⟩⟩
  repeat (first|(with_reducible exact mP.o)|(with_reducible refine eF ?_ ?_) | omega)
 have e30:decide (30 < D)=false:=ala Od;have H30:=O (show rW T≤30 by rw [← HDD.o];omega);clear Od;go_wp2_with fail;refine WK.o.mono ?_;rintro e w6⟨rfl,h⟩;have y:=O (I.o.below h I.o.lt);have mP:=O (kQ.o.trans (h.mono kQ.o.size));have S:=O (HT5.o.below h);clear h r t r0 r1;have r:=y.o.cell 0;have t:=y.o.cell 1
 have R:=O (by
  have h9:=yP xs T.items A c B m d w6 (by
   obtain⟨A',B',c',d',hv,h8⟩:=S.o.tAt Ke.o;injection hv with hv
   injection hv with hv
   injection hv with C a
   injection C with hA
   injection a with a _
   injection a with hB
   subst hA;subst hB;exact h8) (by rw [← M.o];omega) (by rw [F.o];exact HG.o.choose)
  rw [← M.o,HTX.o] at h9
  exact h9)
 obtain⟨g,hO⟩:∃ g,g=outT T:=⟨_,rfl⟩;rw [← hO] at R
 have Q:=O hO;clear hO;have L:=O (show gM T=if 0≤g then ((nd T g.toNat).at_,3) else (0,0) by unfold gM;rw [if_neg (by rw [HLX.o];have h9:=H30.o;simp;omega),← Q.o]);by_cases h0:0≤g
 ·have e0:decide (0≤g)=true:=ak' h0;go_wp2_with fail;refine R.o.mono ?_;rintro e w7⟨rfl,K⟩;have E:=O (y.o.below K y.o.lt);have N:=O (mP.o.trans (K.mono mP.o.size));have U:=O (S.o.below K);clear K r t;have r:=E.o.cell 0;have t:=E.o.cell 1;have r0:=E.o.frozen 0;have r1:=E.o.frozen 1;have hol:=acG (T:=T) (by rw [← Q.o];exact h0);rw [← Q.o,← F.o,P.o,← M.o] at hol
  obtain⟨On,hOn⟩:∃ On:Nat,g=(On:Int):=⟨g.toNat,by omega⟩;obtain⟨x,hx⟩:∃ x,xs[On]? = some x:=lF (by rw [← M.o];omega)
  have Rz:=O (show gM T=(x.1.at_,3) by
   rw [L.o,if_pos h0,hOn,ak7];have h9:=bI T.items hx;rw [F.o] at h9
   rw [← h9])
  have hT7:rQ w7 A B xs T.items:=by
   obtain⟨A',B',c',d',hv,h8⟩:=U.o.tAt Ke.o;injection hv with hv
   injection hv with hv
   injection hv with C a
   injection C with hA
   injection a with a _
   injection a with hB
   subst hA;subst hB;exact h8
  obtain⟨b,o,rfl,hN⟩:=hT7.nodes (by rw [← M.o];omega);have c4:=hN.c4 On x hx;have hbl:=hN.lt;subst hOn;have i1:(0:Int)≤(On:Int):=by omega
  clear hN hT7 hx;go_wp2_with fail;go_region
  all_goals
   go_wp2_with fail;have hz:=(E.o.g_ 0 (.slice none 0 0)).g_ 1 (.slice none 0 0);have z0:=hz.cell 0;have z1:=hz.cell 1;refine bodyPost_ret (v:=.tuple #[.agg #[.slice none 0 0,.slice none 0 0],.int .i64 x.1.at_,.int .i64 3]) (by simp [results,Tryz.f8,go_sem,z0,z1]) rfl ⟨?_,.inl ⟨by rw [Rz.o];show (3:Int) ≠ 0;decide,by rw [Rz.o]⟩⟩
   repeat (first|(with_reducible exact N.o)|(with_reducible refine eF ?_ ?_)|(with_reducible refine Below.drew ?_) | omega)
 ·have e0:decide (0≤g)=false:=ala h0;have Kg:=O (show gM T=(0,0) by rw [L.o,if_neg h0]);go_wp2_with fail;refine R.o.mono ?_;rintro e w7⟨rfl,K⟩;have E:=O (y.o.below K y.o.lt);have N:=O (mP.o.trans (K.mono mP.o.size));have U:=O (S.o.below K);clear K r t;have r:=E.o.cell 0;have t:=E.o.cell 1;have r0:=E.o.frozen 0;have r1:=E.o.frozen 1;go_wp2_with fail;have hz:=(E.o.g_ 0 (.slice A n c)).g_ 1 (.slice B m d);have z0:=hz.cell 0;have z1:=hz.cell 1;have HTF:=O ((U.o.set (i:=0) (u:=.slice A n c) j).set (i:=1) (u:=.slice B m d) j);refine bodyPost_ret (v:=.tuple #[.agg #[.slice A n c,.slice B m d],.int .i64 0,.int .i64 0]) (by simp [results,Tryz.f8,go_sem,z0,z1]) rfl ⟨?_,.inr ⟨by rw [Kg.o],_,xs,w2.heap.size,rfl,F.o,by omega,HTF.o⟩⟩
  repeat (first|(with_reducible exact N.o)|(with_reducible refine eF ?_ ?_) | omega)
end
section
open Go.RowKit Mist
theorem ac6 (w:World):rQ w none none [] []:=⟨fun h=>absurd h (by simp),⟨fun h=>absurd h (by simp)⟩⟩
def nU (T:Tr)(X E:Int)(w:World)(e:Ending)(w':World):Prop :=
 Below w.heap.size w w'∧∃ (A B:Option Addr) (c d:Nat) (xs:List NV),e=.returned (.tuple #[.agg #[.slice A xs.length c,.slice B T.items.length d],.int .i64 X,.int .i64 E])∧aF xs=T.nodes∧rQ w' A B xs T.items
theorem oF {w a:World}{e:Ending}{X E:Int}(h:e=.returned (.tuple #[.agg #[.slice none 0 0,.slice none 0 0],.int .i64 X,.int .i64 E]))(b:Below w.heap.size w a):nU ⟨[],[]⟩ X E w e a :=
 ⟨b,none,none,0,0,[],h,rfl,ac6 _⟩
end
set_option linter.all false
section
open Go.RowKit Mist
attribute [local go_sem] ah aM aV au ak
def qc (T:Tr)(X E:Int):Bs × Int × Int:=if E ≠ 0 then ([],X,E) else ((yT T).1,0,((yT T).2:Nat))
def Parsed (T:Tr)(X E:Int):Prop:=E ≠ 0∨E=0∧X=0∧fJ T=0∧Dt T.nodes
theorem J9 {T:Tr}{xs:List NV}(h:aF xs=T.nodes):T=⟨aF xs,T.items⟩:=by cases T;simp at h;rw [h]
theorem Yp {W:World}{s:Bs}{T:Tr}{X E:Int}(q:∀ w,Env w→Calls Tryz.prog 8 #[.string (aH s)] w (nU T X E w))(Q:Parsed T X E)(J:Env W)(R:Pow W) :
  Calls Tryz.prog 7 #[.string (aH s)] W fun e W'=>e=.returned (.tuple #[.string (aH (qc T X E).1),.int .i64 (qc T X E).2.1,.int .i64 (qc T X E).2.2])∧Below W.heap.size W W':=by
 have U:=O (q W J);have S:=O J;have Y:=O R;have V:=O Q;clear q J R Q;go_in
 go_wp2_with fail;refine U.o.mono ?_;rintro e w1⟨a,A,B,c,d,xs,rfl,l,I⟩;have u:=O I;have r:=O a;have N:=O (bf.new w1 32 #[.slice A xs.length c,.slice B T.items.length d]);have t:=O (a.alloc a.size (.cells #[.slice A xs.length c,.slice B T.items.length d] 32));have M:=O ((Below.refl w1.heap.size w1).alloc (ak0 _) (.cells #[.slice A xs.length c,.slice B T.items.length d] 32));have D:=O (J9 l);obtain⟨g,b⟩:∃ g,g=T.items:=⟨_,rfl⟩;obtain⟨n,y⟩:∃ n,n=xs.length:=⟨_,rfl⟩;obtain⟨m,x⟩:∃ m,m=g.length:=⟨_,rfl⟩;rw [← b] at D u N t M ⊢
 rw [← y,← x] at N t M ⊢
 by_cases h0:E=0
 ·have K:qc T X E=((yT T).1,0,(((yT T).2:Nat):Int)):=by unfold qc;rw [if_neg (by simp [h0])]
  have L:X=0∧fJ T=0∧Dt T.nodes:=by rcases V.o with h | h;exact absurd h0 h;exact h.2
  have f:=L.2;rw [D.o] at f
  have KX:O9 w1 A B xs g:=⟨u.o,f.2,S.o.below r.o,Y.o.on r.o⟩;have C:=KX.wx f.1;have i:=O C;have Z:=O L.1;have HN:=O y;have HM:=O x;obtain⟨P,q⟩:∃ P,P=yT T:=⟨_,rfl⟩;have j:=q;rw [D.o] at j
  have k:=Vo (c:=c) (d:=d) (i.o.1.below M.o) rfl i.o.2.2 (by have:=i.o.2.1;omega);rw [← y,← x,← j] at k
  rw [← q] at K
  have H:=O K;have G:=O k;subst h0;clear a l I b y x K L f KX C k q j D;go_wp2_with fail;refine G.o.mono ?_;rintro e w3⟨rfl,v⟩;have F:=O (t.o.trans (v.mono t.o.size));clear v;go_wp2_with fail;go_ret3
  exact⟨by rw [H.o];rfl,F.o⟩
 ·have H:=O (show qc T X E=([],X,E) from by unfold qc;rw [if_pos h0]);have z:(E != 0)=true:=by simpa using h0
  clear a l I b y x h0;go_wp2_with fail;go_ret3
  exact⟨by rw [H.o];rfl,t.o⟩
end
section
open Go.RowKit Mist
theorem Mh (i:Nat)(D:List Nat)(h:i < D.length):D.set i (max (D.getD i 0) 1)=nK i D:=by
 unfold nK;split
 ·rename_i h0;rw [h0];rfl
 ·rename_i h0
  rw [show max (D.getD i 0) 1=D.getD i 0 by omega];rw [akY,akU h];simp
theorem YL (i:Nat)(D:List Nat)(h:i < D.length):(nK i D).getD i 0=max (D.getD i 0) 1:=by
 rw [← Mh i D h,rY,if_pos ⟨rfl,h⟩]
theorem foldl_max (D:List Nat):∀ (m:Nat),(D.map fun (d:Nat)=>(d:Int)).foldl max (m:Int)=((D.foldl max m:Nat):Int):=by
 induction D with
 | nil=>intro m;rfl
 | cons a r b =>
  intro m;simp only [List.map_cons,List.foldl_cons];rw [show max (m:Int) (a:Int)=((max m a:Nat):Int) by omega];exact b _
theorem MX (A B:Option Addr)(c m d:Nat)(xs:List NV)(its:List Int)(w:World)(hT:rQ w A B xs its)(hW:Wf (aF xs))(hn:xs.length≤100000) :
  Calls Tryz.prog 70 #[.agg #[.slice A xs.length c,.slice B m d]] w fun e w'=>∃ g,e=.returned (.slice (some ⟨g,0,none⟩) xs.length xs.length)∧w.heap.size≤g∧bf w' g 3 (iA (iN (aF xs)))∧Below w.heap.size w w':=by
 obtain⟨n,y⟩:∃ n,n=xs.length:=⟨_,rfl⟩;rw [← y] at hn ⊢
 have uq:=O y;clear y;have HTA:=O hT;clear hT;have HW:=O hW;clear hW;have N:=run_make_row' (P:=Tryz.prog) 30 3 (.int .i64 0) 8 Tryz.underlying30 kR rfl .i64 .i64 n (by omega) (by omega) (w.alloc (.cells #[.slice A n c,.slice B m d] 32));rw [Hu] at N
 go_in
 go_wp2_with fail;have t:=bf.new (w.alloc (.cells #[.slice A n c,.slice B m d] 32)) 3 (iA (List.replicate n 0));rw [show (w.alloc (.cells #[.slice A n c,.slice B m d] 32)).heap.size=w.heap.size+1 by simp] at t
 have G:=O t;clear t;have I:=O ((bf.new w 32 #[.slice A n c,.slice B m d]).alloc (.cells (iA (List.replicate n 0)) 3));have ni:=O (aG (aG (Below.refl w.heap.size w) (ak0 _) (o:=.cells #[.slice A n c,.slice B m d] 32)) (by simp) (o:=.cells (iA (List.replicate n 0)) 3));clear N;go_loopw [4] (fun i wr=>∃ (k:Nat) (D:List Nat),k≤n∧i=.int .i64 ((k:Int) - 1)∧Hid (D.length=n)∧Hid (bf wr (w.heap.size+1) 3 (iA D))∧Hid (bf wr w.heap.size 32 #[.slice A n c,.slice B m d])∧Hid (T_ (aF xs) k D=iN (aF xs))∧Hid (lJ (n - k+1) D)∧Hid (Below w.heap.size w wr)) (fun i _=>(intOf i+1).toNat)
 case atStart=>exact⟨n,List.replicate n 0,ak0 _,rfl,O (by simp),G,I,O (by unfold iN;rw [dL,← uq.o]),O (Du _ _),ni⟩
 case round =>
  clear G I ni;obtain⟨k,D,hk,rfl,V,T,HT,HD,HA,HL⟩:=hrel;rcases Nat.eq_zero_or_pos k with h0 | h0
  ·subst h0;have HD2:=O (show D=iN (aF xs) from HD.o);go_wp2_with fail;go_ret;exact⟨_,rfl,by omega,by rw [← HD2.o];exact T.o,HL.o⟩
  ·obtain⟨k,rfl⟩:∃ k0,k=k0+1:=⟨k - 1,by omega⟩;rw [show (((k+1:Nat):Int) - 1)=(k:Int) by omega];obtain⟨b,o,rfl,L⟩:=HTA.o.nodes (by rw [← uq.o];omega);have U:=O L.kids;clear L;have tc0:=HT.o.cell 0;have tc1:=HT.o.cell 1
   have dk:wr.cell? ⟨w.heap.size+1,k,none⟩=some (.int .i64 ((D.getD k 0:Nat):Int)):=by
    rw [T.o.cell k];exact rJ D k (by rw [V.o];omega)
   have fk:=T.o.frozen k;have i1:(0:Int)≤(k:Int):=by omega
   have i2:(k:Int) < (n:Int):=by omega
   obtain⟨v,hv⟩:∃ v,v=D.getD k 0:=⟨_,rfl⟩;rw [← hv] at dk
   have HV:=O hv;clear hv;obtain⟨x,R⟩:∃ x,xs[k]? = some x:=⟨_,akU (by rw [← uq.o];omega)⟩;have HX:=O R;have kc:=(U.o.below HL.o).kv k x R;obtain⟨Ak,ca,C,hxl,S⟩:=U.o.kids x (ak3 R);rw [C] at kc
   have FT:=O S;have HKV:=O (show ∀ W,Below w.heap.size w W→W.cell? ⟨b,o+k * 5+3,none⟩=some (.slice Ak x.1.kids.length ca) from fun W hb=>by rw [← C];exact (U.o.below hb).kv k x R);clear R C S;have hbl:=U.o.lt;have Q:max ((v:Nat):Int) 1=((max v 1:Nat):Int):=by omega
   obtain⟨u,Y⟩:∃ u,u=max v 1:=⟨_,rfl⟩;rw [← Y] at Q
   have H1:=O (show (nK k D).getD k 0=u by rw [YL k D (by rw [V.o];omega),← HV.o,Y]);have HO:=O (show D.set k u=nK k D by rw [← Mh k D (by rw [V.o];omega),← HV.o,Y]);have E:=O (HA.o.nK (i:=k) (by omega));have hv1:u≤n - (k+1)+1:=by have:=E.o k;rw [H1.o] at this;exact this
   have HD1:=O (xZ k D);clear Y;go_wp2_with fail;have HB1:=O (show bf (wr.setCell ⟨w.heap.size+1,k,none⟩ (.int .i64 u)) (w.heap.size+1) 3 (iA (nK k D)) from (by rw [← HO.o,← DY];exact T.o.g_ k _));have HT1:=O (show bf (wr.setCell ⟨w.heap.size+1,k,none⟩ (.int .i64 u)) w.heap.size 32 #[.slice (some ⟨b,o,none⟩) n c,.slice B m d] from HT.o.far (by simp) _);have vM:=O (show Below w.heap.size w (wr.setCell ⟨w.heap.size+1,k,none⟩ (.int .i64 u)) from eF HL.o (by simp));clear Q dk fk;go_loopw [5] (fun j wU=>∃ (a:Nat) (h:List Nat),a≤x.1.kids.length∧j=.int .i64 a∧Hid (h.length=n)∧Hid (bf wU (w.heap.size+1) 3 (iA h))∧Hid (bf wU w.heap.size 32 #[.slice (some ⟨b,o,none⟩) n c,.slice B m d])∧Hid (uG u (x.1.kids.drop a) h=qY (aF xs) k D)∧Hid (h.getD k 0=u)∧Hid (lJ (n - k+1) h)∧Hid (Below w.heap.size w wU)) (fun j _=>x.1.kids.length - (intOf j).toNat)
   case atStart=>exact⟨0,nK k D,ak2 _,rfl,O (HD1.o.trans V.o),HB1,HT1,O (by rw [List.drop_zero,qY,H1.o,Ei HX.o]),H1,O (E.o.mono (by omega)),vM⟩
   case round =>
    obtain⟨a,h,hj,rfl,Z,K,l,H,J,F,X⟩:=hrel;have tc0:=l.o.cell 0;have tc1:=l.o.cell 1;have kc:=HKV.o wr X.o;by_cases q:a < x.1.kids.length
    case pos =>
     obtain⟨bk,ok,rfl,hbk,M⟩:=FT.o (by omega);obtain⟨kq,r⟩:∃ kq,x.1.kids[a]? = some kq:=⟨_,akU q⟩;have hwf:=HW.o k x.1 (by unfold aF;rw [List.getElem?_map,HX.o];rfl) kq (ak3 r);obtain⟨f,rfl⟩:∃ f:Nat,kq=(f:Int):=⟨kq.toNat,by omega⟩;have cj:=(X.o.cell (p:=⟨bk,ok+a,none⟩) hbk).trans (M a f r)
     have HDR:=O (show x.1.kids.drop a=(f:Int) :: x.1.kids.drop (a+1) by
      rw [alc q,(akV.1 r).2])
     have ck:wr.cell? ⟨w.heap.size+1,k,none⟩=some (.int .i64 ((u:Nat):Int)):=by
      rw [K.o.cell k,rJ h k (by rw [Z.o];omega),J.o]
     have fn:=K.o.frozen f
     have cn:wr.cell? ⟨w.heap.size+1,f,none⟩=some (.int .i64 ((h.getD f 0:Nat):Int)):=by
      rw [K.o.cell f,rJ h f (by rw [Z.o];omega)]
     have k1:(0:Int)≤(f:Int):=by omega
     have k2:(f:Int) < (n:Int):=by omega
     have hkk:f < k:=by omega
     clear M r hwf;have j1:decide ((a:Int) < (x.1.kids.length:Int))=true:=ak' (by omega);have j2:decide (a < x.1.kids.length)=true:=ak' q;have w1:IntKind.i64.wrap ((u:Int)+1)=(u:Int)+1:=IntWalk.i64_in _ (by omega);have j3:(0:Int)≤(a:Int):=by omega
     have j4:(a:Int) < (x.1.kids.length:Int):=by omega
     go_wp2_with fail;go_region
     go_wp2_with fail
     refine⟨⟨a+1,h.set f (u+1),by omega,by go_num,O (by rw [List.length_set];exact Z.o),O (bf.drew (by rw [← DY];exact K.o.g_ f _)),O (bf.drew (l.o.far (by simp) _)),O (by have h9:=H.o;rw [HDR.o] at h9;exact h9),O (by rw [rY,if_neg (by omega)];exact J.o),O (F.o.set (by omega)),O (Below.drew (eF X.o (by simp)))⟩,by simp [intOf];omega⟩
    case neg =>
     have WK:=O (show h=qY (aF xs) k D by have h9:=H.o;rw [List.drop_of_length_le (by omega)] at h9;exact h9);have j1:decide ((a:Int) < (x.1.kids.length:Int))=false:=ala (by omega);have j2:decide (a < x.1.kids.length)=false:=ala q;go_wp2_with fail
     refine⟨⟨k,h,by omega,by go_num,Z,K,l,O (by rw [WK.o];exact HD.o),F,X⟩,by (first|(simp [intOf];done)|(simp [intOf];omega))⟩
theorem Qi:∀ (l:List Nat),l ≠ []→Lib.maxOf (l.map fun (d:Nat)=>(d:Int))=((l.foldl max 0:Nat):Int):=by
 intro l h;obtain⟨a,r,rfl⟩:=List.exists_cons_of_ne_nil h
 show (((a :: r).map fun (d:Nat)=>(d:Int)).foldl max (a:Int))=_
 rw [foldl_max];simp
theorem Px (l:List Nat)(k:Nat)(h:k < l.length):(l.take (k+1)).foldl max 0=max ((l.take k).foldl max 0) (l.getD k 0):=by
 rw [List.take_add_one,akU h,List.foldl_append];simp [akY,akU h]
theorem Jg (ns:List Nd):jN ns=(((iN ns).foldl max 0:Nat):Int):=by
 unfold jN;split
 ·rename_i h
  rw [List.length_eq_zero_iff.1 h];rfl
 ·rename_i h
  exact Qi _ (fun e=>h (by have:=congrArg List.length e;unfold iN at this;rw [x9,List.length_replicate] at this;exact this))
theorem JX (A B:Option Addr)(c m d:Nat)(xs:List NV)(h:List Int)(w:World)(H:rQ w A B xs h)(I:Wf (aF xs))(K:xs.length≤100000) :
  Calls Tryz.prog 36 #[.agg #[.slice A xs.length c,.slice B m d]] w fun e Q=>e=.returned (.int .i64 (jN (aF xs)))∧Below w.heap.size w Q:=by
 have t:=O fun W (l:Below w.heap.size w W)=>MX A B c m d xs h W (H.below l) I K
 have E:=O (Jg (aF xs));have b:=O (show (iN (aF xs)).length=xs.length by unfold iN;rw [x9,List.length_replicate,dL]);clear H I;obtain⟨n,f⟩:∃ n,n=xs.length:=⟨_,rfl⟩;rw [← f] at t b K ⊢
 clear f;have r:=O (aG (Below.refl w.heap.size w) (ak0 _) (o:=.cells #[.slice A n c,.slice B m d] 32));go_in
 go_wp2_with fail;refine (t.o _ r.o).mono ?_;rintro e w1⟨g,rfl,R,l,J⟩;have y:=O l;clear l;have N:=O (r.o.trans (J.mono r.o.size));clear J r;obtain⟨D,G⟩:∃ D,D=iN (aF xs):=⟨_,rfl⟩;rw [← G] at E b y
 clear G t;go_wp2_with fail;go_loopw [3,5] (fun v i wr=>∃ (k u:Nat),wr=w1∧k≤n∧i=.int .i64 k∧v=.int .i64 u∧Hid (u=(D.take k).foldl max 0)) (fun _ i _=>n - (intOf i).toNat)
 case atStart=>exact⟨0,0,rfl,ak2 _,rfl,rfl,O rfl⟩
 case round =>
  obtain⟨k,u,rfl,S,rfl,rfl,C⟩:=hrel;by_cases a:k < n
  ·have P:decide (k < n)=true:=ak' a;have F:=y.o.cell k;rw [rJ D k (by rw [b.o];exact a)] at F
   have j:=O (Px D k (by rw [b.o];exact a));rw [← C.o] at j
   obtain⟨q,L⟩:∃ q,q=D.getD k 0:=⟨_,rfl⟩;rw [← L] at F j
   clear L;have T:(0:Int)≤(k:Int):=by omega
   have U:(k:Int) < (n:Int):=by omega
   have x:max (u:Int) (q:Int)=((max u q:Nat):Int):=by omega
   obtain⟨v,hv⟩:∃ v,v=max u q:=⟨_,rfl⟩;rw [← hv] at x j
   clear hv;go_wp2_with fail;exact⟨⟨k+1,v,by first | rfl | trivial,by omega,by go_num,rfl,O j.o.symm⟩,by simp [intOf];omega⟩
  ·have P:decide (k < n)=false:=ala a;have M:=O (show ((u:Nat):Int)=jN (aF xs) by rw [E.o,C.o,ak4 (by rw [b.o];omega)]);go_wp2_with fail;go_ret;exact⟨by rw [← M.o];rfl,N.o⟩
end
section
open Go.RowKit Mist
attribute [local go_sem] ah aM aV au ak
def Cz (xs:List NV)(x:Nd):Prop:=x.kind=40→∃ (p q:Nat) (y z:NV),x.kids[0]? = some (p:Int)∧x.kids[1]? = some (q:Int)∧xs[p]? = some y∧xs[q]? = some z∧(-100000≤y.1.n∧y.1.n≤100000)∧(-100000≤z.1.n∧z.1.n≤100000)
theorem QZ (A B:Option Addr)(c m d i:Nat)(xs:List NV)(f:List Int)(x:NV)(w:World)(Y:rQ w A B xs f)(D:xs[i]? = some x)(hn:xs.length≤10000)(X:Cz xs x.1) :
  Calls Tryz.prog 37 #[.agg #[.slice A xs.length c,.slice B m d],.int .i64 i] w fun e w'=>e=.returned (.bool (jL ⟨aF xs,f⟩ x.1))∧Below w.heap.size w w':=by
 have P:i < xs.length:=(akV.1 D).1;obtain⟨b,o,rfl,C⟩:=Y.nodes (by omega);have U:=O C;have c0:=C.c0 i x D;have c1:=C.c1 i x D;have c2:=C.c2 i x D;have c3:=C.c3 i x D;have c4:=C.c4 i x D;have hbl:=C.lt;obtain⟨Ka,ca,I,K,J⟩:=C.kid D;rw [I] at c3
 have T:=O J;clear C I J Y;obtain⟨n,H⟩:∃ n,n=xs.length:=⟨_,rfl⟩;rw [← H] at hn P ⊢
 have W:=O H;clear H;have V:=O X;clear X;clear D;obtain⟨⟨k,tx,j,ks,at_⟩,xv⟩:=x;obtain⟨a,G⟩:∃ a,a=ks.length:=⟨_,rfl⟩;simp only at c0 c1 c2 c3 c4 K V T ⊢
 rw [← G] at c3 K
 have S:=O G;clear G;have z0:(0:Int)≤(i:Int):=by omega
 have z1:(i:Int) < (n:Int):=by omega
 have l:=O (aG (aG (Below.refl w.heap.size w) (ak0 _) (o:=.cells #[.slice (some ⟨b,o,none⟩) n c,.slice B m d] 32)) (by simp) (o:=.cells #[.int .u8 k,.string (aH tx),.int .i64 j,.slice Ka a ca,.int .i64 at_] 50))
 have r:=O (show jL ⟨aF xs,f⟩ ⟨k,tx,j,ks,at_⟩=(if k=40 then decide ((nd ⟨aF xs,f⟩ (ks.getD 0 0).toNat).n≤(nd ⟨aF xs,f⟩ (ks.getD 1 0).toNat).n) && decide ((nd ⟨aF xs,f⟩ (ks.getD 1 0).toNat).n - (nd ⟨aF xs,f⟩ (ks.getD 0 0).toNat).n+1≤12)
   else if k=41 then decide (a≤6) else if k=42 then decide ((a:Int) - 2≤4) && decide (j≤8) else if k=33 then within j 1 6 else if k=26 then decide (a≤6) else if k=46 then decide (a≤4) else true) by rw [S.o];rfl)
 go_in
 by_cases vk:k=40
 ·subst vk;obtain⟨p,q,y,z,L,M,hy,N,Q,R⟩:=V.o rfl;obtain⟨bk,ok,rfl,hbk,F⟩:=T.o.ex (by show 0 < ks.length;have:=(akV.1 L).1;omega);have k0:=F 0 p L;rw [Nat.add_zero] at k0
  have k1:=F 1 q M;have n2:1 < a:=by rw [S.o];exact (akV.1 M).1
  have py:=U.o.c2 p y hy;have pz:=U.o.c2 q z N;have hpn:p < n:=by rw [W.o];exact (akV.1 hy).1
  have hqn:q < n:=by rw [W.o];exact (akV.1 N).1
  have h:=O (show jL ⟨aF xs,f⟩ ⟨40,tx,j,ks,at_⟩=(decide (y.1.n≤z.1.n) && decide (z.1.n - y.1.n+1≤12)) by
   rw [r.o,if_pos rfl];rw [show ks.getD 0 0=(p:Int) by rw [akY,L];rfl,show ks.getD 1 0=(q:Int) by rw [akY,M];rfl,ak7,ak7,bI f hy,bI f N])
  clear F L M hy N;obtain⟨u,Z⟩:∃ u,u=y.1.n:=⟨_,rfl⟩;obtain⟨v,hv⟩:∃ v,v=z.1.n:=⟨_,rfl⟩;rw [← Z] at py Q h
  rw [← hv] at pz R h
  clear Z hv;have y0:(0:Int)≤(p:Int):=by omega
  have y1:(p:Int) < (n:Int):=by omega
  have y2:(0:Int)≤(q:Int):=by omega
  have y3:(q:Int) < (n:Int):=by omega
  have y4:(0:Int) < (a:Int):=by omega
  have y5:(1:Int) < (a:Int):=by omega
  go_wp2_with fail;go_region
  by_cases h1:u≤v
  ·have g:decide (u≤v)=true:=ak' h1;go_wp2_with fail;go_ret;exact⟨by rw [h.o,g];rfl,by first | exact Below.drew l.o | exact l.o⟩
  ·have g:decide (u≤v)=false:=ala h1;go_wp2_with fail;go_ret;exact⟨by rw [h.o,g];rfl,by first | exact Below.drew l.o | exact l.o⟩
 have e40:((k:Int) == 40)=false:=by rw [akW];omega
 by_cases h41:k=41
 ·subst h41;have h:=O (show jL ⟨aF xs,f⟩ ⟨41,tx,j,ks,at_⟩=(decide (a≤6)) by rw [r.o];simp);clear r;by_cases h1:a≤6
  ·have g:decide (a≤6)=true:=ak' h1;have t:decide ((a:Int)≤6)=true:=ak' (by omega);clear h1;go_wp2_with fail;go_ret;exact⟨by rw [h.o,g];rfl,l.o⟩
  ·have g:decide (a≤6)=false:=ala h1;have t:decide ((a:Int)≤6)=false:=ala (by omega);clear h1;go_wp2_with fail;go_ret;exact⟨by rw [h.o,g];rfl,l.o⟩
 have e41:((k:Int) == 41)=false:=by rw [akW];omega
 by_cases h42:k=42
 ·subst h42;have h:=O (show jL ⟨aF xs,f⟩ ⟨42,tx,j,ks,at_⟩=(decide ((a:Int) - 2≤4) && decide (j≤8)) by rw [r.o];simp);clear r;have w1:IntKind.i64.wrap ((a:Int) - 2)=(a:Int) - 2:=IntWalk.i64_in _ (by omega);by_cases h1:(a:Int) - 2≤4
  ·have g:decide ((a:Int) - 2≤4)=true:=ak' h1;by_cases h2:j≤8
   ·have E:decide (j≤8)=true:=ak' h2;go_wp2_with fail;go_ret;exact⟨by rw [h.o,g,E];rfl,l.o⟩
   ·have E:decide (j≤8)=false:=ala h2;go_wp2_with fail;go_ret;exact⟨by rw [h.o,g,E];rfl,l.o⟩
  ·have g:decide ((a:Int) - 2≤4)=false:=ala h1;go_wp2_with fail;go_ret;exact⟨by rw [h.o,g];rfl,l.o⟩
 have e42:((k:Int) == 42)=false:=by rw [akW];omega
 by_cases h33:k=33
 ·subst h33;have h:=O (show jL ⟨aF xs,f⟩ ⟨33,tx,j,ks,at_⟩=(decide (1≤j) && decide (j≤6)) by rw [r.o];simp [within]);clear r;by_cases h1:1≤j
  ·have g:decide (1≤j)=true:=ak' h1;by_cases h2:j≤6
   ·have E:decide (j≤6)=true:=ak' h2;go_wp2_with fail;go_ret;exact⟨by rw [h.o,g,E];rfl,l.o⟩
   ·have E:decide (j≤6)=false:=ala h2;go_wp2_with fail;go_ret;exact⟨by rw [h.o,g,E];rfl,l.o⟩
  ·have g:decide (1≤j)=false:=ala h1;go_wp2_with fail;go_ret;exact⟨by rw [h.o,g];rfl,l.o⟩
 have e33:((k:Int) == 33)=false:=by rw [akW];omega
 by_cases h26:k=26
 ·subst h26;have h:=O (show jL ⟨aF xs,f⟩ ⟨26,tx,j,ks,at_⟩=(decide (a≤6)) by rw [r.o];simp);clear r;by_cases h1:a≤6
  ·have g:decide (a≤6)=true:=ak' h1;have t:decide ((a:Int)≤6)=true:=ak' (by omega);clear h1;go_wp2_with fail;go_ret;exact⟨by rw [h.o,g];rfl,l.o⟩
  ·have g:decide (a≤6)=false:=ala h1;have t:decide ((a:Int)≤6)=false:=ala (by omega);clear h1;go_wp2_with fail;go_ret;exact⟨by rw [h.o,g];rfl,l.o⟩
 have e26:((k:Int) == 26)=false:=by rw [akW];omega
 by_cases h46:k=46
 ·subst h46;have h:=O (show jL ⟨aF xs,f⟩ ⟨46,tx,j,ks,at_⟩=(decide (a≤4)) by rw [r.o];simp);clear r;by_cases h1:a≤4
  ·have g:decide (a≤4)=true:=ak' h1;have t:decide ((a:Int)≤4)=true:=ak' (by omega);clear h1;go_wp2_with fail;go_ret;exact⟨by rw [h.o,g];rfl,l.o⟩
  ·have g:decide (a≤4)=false:=ala h1;have t:decide ((a:Int)≤4)=false:=ala (by omega);clear h1;go_wp2_with fail;go_ret;exact⟨by rw [h.o,g];rfl,l.o⟩
 have e46:((k:Int) == 46)=false:=by rw [akW];omega
 have h:=O (show jL ⟨aF xs,f⟩ ⟨k,tx,j,ks,at_⟩=true by rw [r.o];simp [*]);clear r;go_wp2_with fail;go_ret;exact⟨by rw [h.o];rfl,l.o⟩
end
