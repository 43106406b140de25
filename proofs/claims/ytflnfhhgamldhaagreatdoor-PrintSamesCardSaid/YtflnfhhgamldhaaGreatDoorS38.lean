/-
  A part of the proof.
-/
import Derived.Test.YtflnfhhgamldhaaGreatDoorS35
import Derived.Test.YtflnfhhgamldhaaGreatDoorS37
set_option linter.all false
set_option maxRecDepth 100000
set_option maxHeartbeats 4000000
namespace Go.Proofs.YtflnfhhgamldhaaGreatDoor
open Go.RowKit Mist
attribute [local go_sem] ah aM aV au ak
def jc (T:Tr):Int × Int :=
 if Mist.large T=true∨30 < rW T then (0,5)
 else match T.nodes.find? (fun x=>!jL T x) with
  | some x=>(x.at_,3)
  | none=>(0,0)
def Yu (T:Tr)(w:World)(e:Ending)(w':World):Prop :=
 Below w.heap.size w w'∧((jc T).2 ≠ 0∧e=.returned (.tuple #[.agg #[.slice none 0 0,.slice none 0 0],.int .i64 (jc T).1,.int .i64 (jc T).2]) ∨
  (jc T).2=0∧∃ (A B:Option Addr) (c d:Nat) (xs:List NV),e=.returned (.tuple #[.agg #[.slice A xs.length c,.slice B T.items.length d],.int .i64 0,.int .i64 0])∧aF xs=T.nodes∧rQ w' A B xs T.items)
theorem TS {T:Tr}{xs:List NV}(a:aF xs=T.nodes){x:Nd}(h:nu T x):Cz xs x:=by
 intro i;obtain⟨p,q,b,f,g,h1,h2⟩:=h i;obtain⟨y,hy⟩:∃ y,xs[p]? = some y:=lF (by rw [← dL,a];exact f);obtain⟨z,c⟩:∃ z,xs[q]? = some z:=lF (by rw [← dL,a];exact g);have d:nd T p=y.1:=by have h9:=bI T.items hy;rw [a] at h9;exact h9
 have e:nd T q=z.1:=by have h9:=bI T.items c;rw [a] at h9;exact h9
 exact⟨p,q,y,z,by rw [b];rfl,by rw [b];rfl,hy,c,by rw [← d];omega,by rw [← e];omega⟩
structure xP (g:Nat) (w:World) (nv iv:Value) (xs:List NV) (its:List Int):Prop where
 own:w.ownsRow g 50 5 nv xs.length (jK xs)
 kids:∀ x ∈ xs,dD w x.2 x.1.kids
 row:dD w iv its
 new:∀ x ∈ xs,∀ b,x.2.ownBlock=some b→g≤b
 lo:∀ b,iv.ownBlock=some b→g≤b
theorem xP.below {g:Nat}{w c:World}{nv iv:Value}{xs:List NV}{a:List Int}(h:xP g w nv iv xs a)(b:Below w.heap.size w c):xP g c nv iv xs a :=
 ⟨own_below h.own b,fun x d=>dD.below (h.kids x d) b,dD.below h.row b,h.new,h.lo⟩
theorem xP.set {g:Nat}{w:World}{nv iv:Value}{xs:List NV}{a:List Int}(h:xP g w nv iv xs a){b i:Nat}{u:Value}(d:b < g):xP g (w.setCell ⟨b,i,none⟩ u) nv iv xs a :=
 ⟨j6 h.own d,fun x c=>ownsRow_setCell_other (h.kids x c) (fun e=>by have:=h.new x c b (by first | exact e | exact e.symm);omega) _,ownsRow_setCell_other h.row (fun e=>by have:=h.lo b (by first | exact e | exact e.symm);omega) _,h.new,h.lo⟩
theorem xP.tAt {g:Nat}{w:World}{A B:Option Addr}{c d n m:Nat}{xs:List NV}{a:List Int}(h:xP g w (.slice A n c) (.slice B m d) xs a)(b:n=xs.length)(j:m=a.length)(i:∀ x ∈ xs,x.1.kids.length≤1000000):rQ w A B xs a:=by
 subst b;subst j
 refine⟨fun h0=>?_,yR h.row rfl⟩
 obtain⟨f,e,b⟩:=AJ h.own h0 (fun x k=>⟨_,h.kids x k⟩) i;exact⟨f,0,e,b⟩
theorem R3 {P:Nd→Bool}:∀ {xs:List NV} {k:Nat} {x:NV},xs[k]? = some x→(∀ (j:Nat) y,j < k→xs[j]? = some y→P y.1=false)→P x.1=true→(aF xs).find? P=some x.1
 | [],_,_,h,_,_=>by cases h
 | y :: ys,0,x,h,_,hP=>by
  obtain rfl:y=x:=by injection h
  show List.find? P (y.1 :: aF ys)=_
  rw [List.find?_cons_of_pos hP]
 | y :: ys,k+1,x,h,hj,hP=>by
  show List.find? P (y.1 :: aF ys)=_
  rw [List.find?_cons_of_neg (by rw [hj 0 y (Nat.succ_pos k) rfl];simp)];exact R3 (xs:=ys) (k:=k) h (fun j z a e=>hj (j+1) z (Nat.succ_lt_succ a) e) hP
theorem ab2 {P:Nd→Bool}{xs:List NV}(h:∀ (j:Nat) y,j < xs.length→xs[j]? = some y→P y.1=false):(aF xs).find? P=none:=by
 rw [List.find?_eq_none];intro x c;obtain⟨z,d,rfl⟩:=List.mem_map.1 c;obtain⟨j,b,a⟩:=List.mem_iff_getElem.1 d;rw [h j z b (by rw [← a];exact akU b)];simp
theorem VU (s:Bs)(l:List Mist.Tok)(n m0:Nat)(a:List Int)(u:RS)(w:World)(hr:Mist.read s=(l,0,0))(hll:l.length≤1000)(hT:∀ t ∈ l,t.text.length≤100000000)(hp:qI l n m0 ⟨0,false,[]⟩ []=some (a,u))(hb:u.bad=false)(hl:s.length≤100000000)(hG:vW ⟨u.ns,a⟩) :
  Calls Tryz.prog 12 #[.string (aH s)] w (Yu ⟨u.ns,a⟩ w):=by
 have hn:u.ns.length≤100000:=Nat.le_trans hG.len (by omega);have HR:=O hr;clear hr;have I:=O hp;clear hp;have HG:=O hG;clear hG;go_in
 go_wp2_with fail;refine (AU s _ hl).mono ?_;rintro e w2⟨v,rfl,ht,hb2⟩;rw [HR.o] at ht ⊢
 have V:=O (u6 hb2);have HL2:=O ((aG (Below.refl w.heap.size w) (ak0 _) (o:=.cells #[.slice none 0 0,.slice none 0 0] 32)).trans (hb2.mono (by simp)));obtain⟨At,ct,rfl⟩:∃ At ct,v=.slice At l.length ct:=by obtain⟨A,c,e,_⟩:=ht;exact⟨A,c,e⟩
 have Dk:=O ht;clear hb2 ht;simp only
 have HB3:=O (V.o.alloc (.cells #[.slice At l.length ct,.int .i64 0,.slice none 0 0,.slice none 0 0,.bool false] 78));have kP:=O (aG HL2.o HL2.o.size (o:=.cells #[.slice At l.length ct,.int .i64 0,.slice none 0 0,.slice none 0 0,.bool false] 78));have HQ:=O (QS.start Dk.o);have E:=V.o.lt;clear V;go_wp2_with fail;refine (aaM l hll hT n w2.heap.size (.slice At l.length ct) _ _ _ _ a u m0 I.o hn HQ.o).mono ?_;rintro e w4⟨rfl,B,d,xs,nv,hL,hQ,U,hri⟩;have L:=O (HB3.o.below (HQ.o.low U.mv) E);have vN:=O (kP.o.trans ((HQ.o.low U.mv).mono (ak1 E)));have H:=O hQ.ns;have hlen:xs.length≤1000:=by rw [hQ.len];exact HG.o.len
 have hkl:∀ x ∈ xs,x.1.kids.length≤1000000:=fun x F=>HG.o.kids x.1 (by show x.1 ∈ u.ns;rw [← H.o];exact List.mem_map_of_mem F)
 have HCH:=O (show ∀ (i:Nat) x,xs[i]? = some x→Cz xs x.1 from fun i x F=>TS (T:=⟨u.ns,a⟩) H.o (HG.o.choose x.1 (by show x.1 ∈ u.ns;rw [← H.o];exact List.mem_map_of_mem (ak3 F))));obtain⟨A,c,rfl⟩:=d_ hQ.own
 have m:=O (show xP w2.heap.size w4 (.slice A xs.length c) (.slice B a.length d) xs a from ⟨hQ.own,hQ.kids,hL.row,fun x F b Kk=>by
  obtain⟨ys,hy,hyn⟩:=U.new;rw [List.nil_append] at hy
  exact Nat.le_trans (by simp) (hyn x (hy ▸ F) b Kk),fun b Kk=>Nat.le_trans (by simp) (hL.lo b Kk)⟩)
 have Z:=O (m.o.tAt rfl rfl hkl);have Ke:=O hkl;have f:=O hQ.blk;have Gu:=O (show Wf (aF xs) by rw [H.o];exact HG.o.wf);rw [hb] at f
 clear hL hQ U HB3 kP HQ I HR Dk hkl hb;obtain⟨g,hg⟩:∃ g,g=w2.heap.size:=⟨_,rfl⟩;rw [← hg] at f E m ⊢
 clear hg;obtain⟨N,hN⟩:∃ N,N=xs.length:=⟨_,rfl⟩;obtain⟨M,U⟩:∃ M,M=a.length:=⟨_,rfl⟩;have hlen':=hlen;rw [← hN] at f hlen' m
 rw [← U] at f hri m
 have Y:=O hN;have HM:=O U;clear hN U;have X:=O (show Mist.large ⟨u.ns,a⟩=(decide (800 < N) || decide (60 < M)) by unfold Mist.large;rw [Y.o,HM.o,← dL,H.o]);have HDP:=O fun W (hb:Below w4.heap.size w4 W)=>JX A B c M d xs a W (Z.o.below hb) Gu.o (by omega)
 have lM:=O fun W (hb:Below w4.heap.size w4 W) i x F hC=>QZ A B c M d i xs a x W (Z.o.below hb) F (by omega) hC
 rw [← Y.o] at HDP lM
 have p2:=f.o.cell 2;have p3:=f.o.cell 3;have p4:=f.o.cell 4;have q0:=L.o.cell 0;have q1:=L.o.cell 1;have r0:=L.o.frozen 0;have r1:=L.o.frozen 1;by_cases h60:60 < M
 ·have e60:decide (60 < M)=true:=ak' h60;have ahG:decide (60 < (M:Int))=true:=ak' (by omega);have q:=O (show jc ⟨u.ns,a⟩=(0,5) by unfold jc;rw [if_pos (Or.inl (by rw [X.o,e60,Bool.or_true]))]);clear h60;go_wp2_with fail;have G:=(L.o.g_ 0 (.slice none 0 0)).g_ 1 (.slice none 0 0);have Q:=G.cell 0;have R:=G.cell 1;refine bodyPost_ret (v:=.tuple #[.agg #[.slice none 0 0,.slice none 0 0],.int .i64 0,.int .i64 5]) (by simp [results,Tryz.f12,go_sem,Q,R]) rfl ⟨?_,.inl ⟨by rw [q.o];show (5:Int) ≠ 0;decide,by rw [q.o]⟩⟩
  repeat (first|(with_reducible exact vN.o)|(with_reducible refine eF ?_ ?_)|(with_reducible refine Below.drew ?_) | omega)
 have e60:decide (60 < M)=false:=ala h60;have ahG:decide (60 < (M:Int))=false:=ala (by omega);by_cases K:800 < N
 ·have aeF:decide (800 < N)=true:=ak' K;have af_:decide (800 < (N:Int))=true:=ak' (by omega);have q:=O (show jc ⟨u.ns,a⟩=(0,5) by unfold jc;rw [if_pos (Or.inl (by rw [X.o,aeF,Bool.true_or]))]);clear h60 K;go_wp2_with fail;have G:=(L.o.g_ 0 (.slice none 0 0)).g_ 1 (.slice none 0 0);have Q:=G.cell 0;have R:=G.cell 1;refine bodyPost_ret (v:=.tuple #[.agg #[.slice none 0 0,.slice none 0 0],.int .i64 0,.int .i64 5]) (by simp [results,Tryz.f12,go_sem,Q,R]) rfl ⟨?_,.inl ⟨by rw [q.o];show (5:Int) ≠ 0;decide,by rw [q.o]⟩⟩
  repeat (first|(with_reducible exact vN.o)|(with_reducible refine eF ?_ ?_)|(with_reducible refine Below.drew ?_) | omega)
 have aeF:decide (800 < N)=false:=ala K;have af_:decide (800 < (N:Int))=false:=ala (by omega);clear h60 K;have ni:=O (show Mist.large ⟨u.ns,a⟩=false by rw [X.o,e60,aeF];rfl);go_wp2_with fail;refine (HDP.o _ (Below.refl _ _)).mono ?_;rintro e w5⟨rfl,r⟩;obtain⟨D,hD⟩:∃ D,D=jN (aF xs):=⟨_,rfl⟩;rw [← hD];have HDD:=O (show rW ⟨u.ns,a⟩=D by rw [hD,H.o];rfl);clear hD;have dF:=O (L.o.below r L.o.lt);have je:=O (f.o.below r f.o.lt);have kQ:=O (vN.o.trans (r.mono vN.o.size));have HW5:=O r;clear r p2 p3 p4 q0 q1 r0 r1 f L vN;have p2:=je.o.cell 2;have p3:=je.o.cell 3;have q0:=dF.o.cell 0;have q1:=dF.o.cell 1;have r0:=dF.o.frozen 0;have r1:=dF.o.frozen 1;by_cases Od:30 < D
 ·have d3:decide (30 < D)=true:=ak' Od;have q:=O (show jc ⟨u.ns,a⟩=(0,5) by unfold jc;rw [if_pos (Or.inr (by rw [HDD.o];exact Od))]);clear Od;go_wp2_with fail;have G:=(dF.o.g_ 0 (.slice none 0 0)).g_ 1 (.slice none 0 0);have Q:=G.cell 0;have R:=G.cell 1;refine bodyPost_ret (v:=.tuple #[.agg #[.slice none 0 0,.slice none 0 0],.int .i64 0,.int .i64 5]) (by simp [results,Tryz.f12,go_sem,Q,R]) rfl ⟨?_,.inl ⟨by rw [q.o];show (5:Int) ≠ 0;decide,by rw [q.o]⟩⟩
  repeat (first|(with_reducible exact kQ.o)|(with_reducible refine eF ?_ ?_)|(with_reducible refine Below.drew ?_) | omega)
 have d3:decide (30 < D)=false:=ala Od
 have q:=O (show jc ⟨u.ns,a⟩=match u.ns.find? (fun x=>!jL ⟨u.ns,a⟩ x) with
  | some x=>(x.at_,3)
  | none=>(0,0) by unfold jc;rw [if_neg (by rw [ni.o,HDD.o];simp;omega)])
 clear Od;have AZ:=O (show (⟨aF xs,a⟩:Tr)=⟨u.ns,a⟩ by rw [H.o]);rw [AZ.o] at lM
 clear q0 q1 r0 r1;go_wp2_with fail;go_loopw [9] (fun i wr=>∃ k:Nat,k≤N∧i=.int .i64 k∧Hid (∀ (j:Nat) y,j < k→xs[j]? = some y→jL ⟨u.ns,a⟩ y.1=true)∧Hid (bf wr w.heap.size 32 #[.slice none 0 0,.slice none 0 0])∧Hid (bf wr g 78 #[.slice At l.length ct,.int .i64 u.k,.slice A N c,.slice B M d,.bool false])∧Hid (Below w.heap.size w wr)∧Hid (Below w4.heap.size w4 wr)) (fun i _=>N - (intOf i).toNat)
 case atStart=>exact⟨0,ak2 _,rfl,O (fun j y hj=>by omega),dF,je,kQ,HW5⟩
 case round =>
  clear dF je kQ HW5 p2 p3;obtain⟨wo,rfl⟩:∃ wo:World,wo=wr:=⟨_,rfl⟩;obtain⟨k,hk,rfl,HK,h,I,HL,S⟩:=hrel;have p2:=I.o.cell 2;have p3:=I.o.cell 3;by_cases hkn:k < N
  ·have i3:decide (k < N)=true:=ak' hkn;have i3':decide ((k:Int) < (N:Int))=true:=ak' (by omega);obtain⟨x,F⟩:∃ x,xs[k]? = some x:=lF (by rw [← Y.o];exact hkn);have HC:=O (HCH.o k x F);have FT:=O F;clear F
   cases C:jL ⟨u.ns,a⟩ x.1
   ·have Rz:=O (show jc ⟨u.ns,a⟩=(x.1.at_,3) by
     rw [q.o,← H.o];rw [R3 (P:=fun x=>!jL ⟨aF xs,a⟩ x) FT.o (fun j y hj hy=>by rw [AZ.o];simp [HK.o j y hj hy]) (by rw [AZ.o];simp [C])])
    have IZ:=O C;clear C;go_wp2_with fail;refine (lM.o _ S.o k x FT.o HC.o).mono ?_;rintro e w7⟨rfl,J⟩;rw [IZ.o];have qO:=O (h.o.below J h.o.lt);have HP7:=O (I.o.below J I.o.lt);have HL7:=O (HL.o.trans (J.mono HL.o.size));have hT7:=Z.o.below (S.o.trans (J.mono S.o.size));clear J p2 p3 h I HL S;have p2:=HP7.o.cell 2;have q0:=qO.o.cell 0;have q1:=qO.o.cell 1;have r0:=qO.o.frozen 0;have r1:=qO.o.frozen 1;obtain⟨b,o,rfl,hNA⟩:=hT7.nodes (by rw [← Y.o];omega);have c4:=hNA.c4 k x FT.o;have i1:(0:Int)≤(k:Int):=by omega
    have i2:(k:Int) < (N:Int):=by omega
    clear hNA hT7;go_wp2_with fail;go_region
    all_goals
     go_wp2_with fail;have G:=(qO.o.g_ 0 (.slice none 0 0)).g_ 1 (.slice none 0 0);have Q:=G.cell 0;have R:=G.cell 1;refine bodyPost_ret (v:=.tuple #[.agg #[.slice none 0 0,.slice none 0 0],.int .i64 x.1.at_,.int .i64 3]) (by simp [results,Tryz.f12,go_sem,Q,R]) rfl ⟨?_,.inl ⟨by rw [Rz.o];show (3:Int) ≠ 0;decide,by rw [Rz.o]⟩⟩
     repeat (first|(with_reducible exact HL7.o)|(with_reducible refine eF ?_ ?_)|(with_reducible refine Below.drew ?_) | omega)
   ·have IZ:=O C;clear C;go_wp2_with fail;refine (lM.o _ S.o k x FT.o HC.o).mono ?_;rintro e w7⟨rfl,J⟩;rw [IZ.o];go_wp2_with fail
    exact⟨⟨k+1,by omega,by go_num,O (fun j y hj hy=>by
     by_cases hjk:j=k
     ·subst hjk;obtain rfl:=ak6 (hy.symm.trans FT.o);exact IZ.o
     ·exact HK.o j y (by omega) hy),O (h.o.below J h.o.lt),O (I.o.below J I.o.lt),O (HL.o.trans (J.mono HL.o.size)),O (S.o.trans (J.mono S.o.size))⟩,by simp only [intOf];omega⟩
  ·have i3:decide (k < N)=false:=ala hkn;have i3':decide ((k:Int) < (N:Int))=false:=ala (by omega)
   have Rz:=O (show jc ⟨u.ns,a⟩=(0,0) by
    rw [q.o,← H.o];rw [ab2 (P:=fun x=>!jL ⟨aF xs,a⟩ x) (fun j y hj hy=>by rw [AZ.o];simp [HK.o j y (by rw [← Y.o] at hj;omega) hy])])
   have q0:=h.o.cell 0;have q1:=h.o.cell 1;have r0:=h.o.frozen 0;have r1:=h.o.frozen 1;have hbl:=h.o.lt;have HZ:=O ((h.o.g_ 0 (.slice A N c)).g_ 1 (.slice B M d));go_wp2_with fail;have Q:=HZ.o.cell 0;have R:=HZ.o.cell 1;refine bodyPost_ret (v:=.tuple #[.agg #[.slice A N c,.slice B M d],.int .i64 0,.int .i64 0]) (by simp [results,Tryz.f12,go_sem,Q,R]) rfl ⟨?_,.inr ⟨by rw [Rz.o],A,B,c,d,xs,by rw [← Y.o,HM.o],H.o,?_⟩⟩
   ·repeat (first|(with_reducible exact HL.o)|(with_reducible refine eF ?_ ?_) | omega)
   ·exact (((m.o.below S.o).set E).set E).tAt Y.o HM.o Ke.o
