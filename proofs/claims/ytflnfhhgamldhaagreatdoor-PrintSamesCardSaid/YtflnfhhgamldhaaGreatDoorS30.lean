/-
  A part of the proof.
-/
import Derived.Test.YtflnfhhgamldhaaGreatDoorS29
set_option linter.all false
set_option maxRecDepth 100000
set_option maxHeartbeats 2000000
namespace Go.Proofs.YtflnfhhgamldhaaGreatDoor
section
open Go.RowKit Mist
attribute [local go_sem] ah aM aV au ak
def eZ (x:Nd):Nd:=⟨x.kind,x.text,x.n,x.kids,0⟩
theorem ze {c:Type}{l r:List c}{k:Nat}{a b:c}(h1:l[k]? = some a)(h2:r[k]? = some b)(h:a ≠ b):l ≠ r:=by
 rintro rfl;exact h (ak6 (h1.symm.trans h2))
theorem SS {c:Type}{l r:List c}{k:Nat}{a b:c}(h1:l[k]? = some a)(h2:r[k]? = some b)(h:a=b)(d:l.take k=r.take k):l.take (k+1)=r.take (k+1):=by
 rw [List.take_add_one,List.take_add_one,h1,h2,h,d]
theorem Iq {b:Type}{l r:List b}{k:Nat}(h1:l.length≤k)(h2:r.length≤k)(a:l.take k=r.take k):l=r:=by
 rwa [ak4 h1,ak4 h2] at a
theorem TH (A B A' B':Option Addr)(c d c' d':Nat)(xs G:List NV)(t N:List Int)(w:World)(hT:rQ w A B xs t)(hU:rQ w A' B' G N)(R:xs.length≤100000)(hy:G.length≤100000)(hi:t.length≤100000)(hj:N.length≤100000) :
  Calls Tryz.prog 13 #[.agg #[.slice A xs.length c,.slice B t.length d],.agg #[.slice A' G.length c',.slice B' N.length d']] w fun e w'=>Below w.heap.size w w'∧∃ r:Bool,e=.returned (.bool r)∧(r=true↔(aF xs).map eZ=(aF G).map eZ∧t=N):=by
 obtain⟨n,hnn⟩:∃ n,n=xs.length:=⟨_,rfl⟩;obtain⟨n',PW⟩:∃ n,n=G.length:=⟨_,rfl⟩;obtain⟨m,hmm⟩:∃ m,m=t.length:=⟨_,rfl⟩;obtain⟨m',M⟩:∃ m,m=N.length:=⟨_,rfl⟩;rw [← hnn] at R ⊢
 rw [← PW] at hy ⊢
 rw [← hmm] at hi ⊢
 rw [← M] at hj ⊢
 have HT:=O hT;clear hT;have HU:=O hU;clear hU;have HN:=O hnn;clear hnn;have U:=O PW;clear PW;have HM:=O hmm;clear hmm;have S:=O M;clear M;have ni:=O (aG (aG (Below.refl w.heap.size w) (ak0 _) (o:=.cells #[.slice A n c,.slice B m d] 32)) (by simp) (o:=.cells #[.slice A' n' c',.slice B' m' d'] 32));have HX0:=O ((bf.new w 32 #[.slice A n c,.slice B m d]).alloc (.cells #[.slice A' n' c',.slice B' m' d'] 32));have HY0:=O (uE (W:=w.alloc (.cells #[.slice A n c,.slice B m d] 32)) (T:=32) (cs:=#[.slice A' n' c',.slice B' m' d']) (k:=w.heap.size+1) (by simp));by_cases hn:n=n'
 case neg =>
  have q1:((n:Int) != (n':Int))=true:=by simp;omega
  have D:=O (show ¬ ((aF xs).map eZ=(aF G).map eZ∧t=N) from fun h=>hn (by have:=congrArg List.length h.1;simp only [List.length_map,dL] at this;rw [HN.o,U.o];exact this));clear hn;go_in
  go_wp2_with fail;go_ret;exact⟨ni.o,false,rfl,by simp only [Bool.false_eq_true,false_iff];exact D.o⟩
 subst hn;have q1:((n:Int) != (n:Int))=false:=by simp
 by_cases hm:m=m'
 case neg =>
  have q2:((m:Int) != (m':Int))=true:=by simp;omega
  have D:=O (show ¬ ((aF xs).map eZ=(aF G).map eZ∧t=N) from fun h=>hm (by rw [HM.o,S.o,h.2]));clear hm;go_in
  go_wp2_with fail;go_ret;exact⟨ni.o,false,rfl,by simp only [Bool.false_eq_true,false_iff];exact D.o⟩
 subst hm;have q2:((m:Int) != (m:Int))=false:=by simp
 clear hy hj;go_in
 go_wp2_with fail;go_loopw [5] (fun i wr=>∃ k:Nat,k≤m∧i=.int .i64 k∧Hid (t.take k=N.take k)∧Hid (bf wr w.heap.size 32 #[.slice A n c,.slice B m d])∧Hid (bf wr (w.heap.size+1) 32 #[.slice A' n c',.slice B' m d'])∧Hid (Below w.heap.size w wr)) (fun i _=>m - (intOf i).toNat)
 case atStart=>exact⟨0,ak2 _,rfl,O rfl,HX0,HY0,ni⟩
 case round =>
  obtain⟨k,hk,rfl,HK,E,F,a⟩:=hrel;clear ni HX0 HY0;have x0:=E.o.cell 0;have x1:=E.o.cell 1;have y0:=F.o.cell 0;have y1:=F.o.cell 1;by_cases hkm:k < m
  ·have i3:decide (k < m)=true:=ak' hkm;obtain⟨b,o,rfl,hbl,hc⟩:=HT.o.items.ex (by rw [← HM.o];omega);obtain⟨Y,o',rfl,aij,hc'⟩:=HU.o.items.ex (by rw [← S.o];omega);obtain⟨p,hp⟩:∃ p,t[k]? = some p:=⟨_,akU (by rw [← HM.o];exact hkm)⟩;obtain⟨q,hq⟩:∃ p,N[k]? = some p:=⟨_,akU (by rw [← S.o];exact hkm)⟩;have cp:=(a.o.cell (p:=⟨b,o+k,none⟩) (by exact hbl)).trans (hc k p hp);have cq:=(a.o.cell (p:=⟨Y,o'+k,none⟩) (by exact aij)).trans (hc' k q hq);have z0:(0:Int)≤(k:Int):=by omega
   have z1:(k:Int) < (m:Int):=by omega
   by_cases f:p=q
   ·have wX:=O (SS hp hq f HK.o);have e1:(p != q)=false:=by simp [f]
    clear hc hc' hp hq f;go_wp2_with fail;go_quiet (fail)
    go_wp2_with fail;exact⟨⟨k+1,by omega,by go_num,wX,O (E.o.drewN _),O (F.o.drewN _),O (gJ a.o _)⟩,by simp [intOf];omega⟩
   ·have D:=O (show ¬ ((aF xs).map eZ=(aF G).map eZ∧t=N) from fun h=>ze hp hq f h.2);have e1:(p != q)=true:=by simp [f]
    clear hc hc' hp hq f;go_wp2_with fail;go_quiet (fail)
    go_wp2_with fail;go_ret;exact⟨gJ a.o _,false,rfl,by simp only [Bool.false_eq_true,false_iff];exact D.o⟩
  ·have i3:decide (k < m)=false:=ala hkm;have HIT:=O (Iq (by rw [← HM.o];omega) (by rw [← S.o];omega) HK.o);clear HK;go_wp2_with fail;clear x0 x1 y0 y1;go_loopw [6] (fun i wr=>∃ k:Nat,k≤n∧i=.int .i64 k∧Hid (((aF xs).take k).map eZ=((aF G).take k).map eZ)∧Hid (bf wr w.heap.size 32 #[.slice A n c,.slice B m d])∧Hid (bf wr (w.heap.size+1) 32 #[.slice A' n c',.slice B' m d'])∧Hid (Below w.heap.size w wr)) (fun i _=>n - (intOf i).toNat)
   case atStart=>exact⟨0,ak2 _,rfl,O rfl,E,F,a⟩
   case round =>
    clear E F a;obtain⟨wo,rfl⟩:∃ wo:World,wo=wr:=⟨_,rfl⟩;obtain⟨k,hk,rfl,HK,E,F,a⟩:=hrel;have x0:=E.o.cell 0;have x1:=E.o.cell 1;have y0:=F.o.cell 0;have y1:=F.o.cell 1;by_cases hkn:k < n
    ·have i3:decide (k < n)=true:=ak' hkn;obtain⟨b,o,rfl,I⟩:=HT.o.nodes (by rw [← HN.o];omega);obtain⟨Y,o',rfl,J⟩:=HU.o.nodes (by rw [← U.o];omega);obtain⟨x,R⟩:∃ x,xs[k]? = some x:=lF (by rw [← HN.o];exact hkn);obtain⟨y,hy⟩:∃ y,G[k]? = some y:=lF (by rw [← U.o];exact hkn);have c0:=(a.o.cell (p:=⟨b,o+k * 5,none⟩) I.lt).trans (I.c0 k x R);have c1:=(a.o.cell (p:=⟨b,o+k * 5+1,none⟩) I.lt).trans (I.c1 k x R);have c2:=(a.o.cell (p:=⟨b,o+k * 5+2,none⟩) I.lt).trans (I.c2 k x R);have c3:=(a.o.cell (p:=⟨b,o+k * 5+3,none⟩) I.lt).trans (I.c3 k x R);have c4:=(a.o.cell (p:=⟨b,o+k * 5+4,none⟩) I.lt).trans (I.c4 k x R);have d0:=(a.o.cell (p:=⟨Y,o'+k * 5,none⟩) J.lt).trans (J.c0 k y hy);have d1:=(a.o.cell (p:=⟨Y,o'+k * 5+1,none⟩) J.lt).trans (J.c1 k y hy);have d2:=(a.o.cell (p:=⟨Y,o'+k * 5+2,none⟩) J.lt).trans (J.c2 k y hy);have d3:=(a.o.cell (p:=⟨Y,o'+k * 5+3,none⟩) J.lt).trans (J.c3 k y hy);have d4:=(a.o.cell (p:=⟨Y,o'+k * 5+4,none⟩) J.lt).trans (J.c4 k y hy);obtain⟨Ka,ca,hxe,hxl,hxk⟩:=I.kid R;obtain⟨Kb,cb,hye,hyl,hyk⟩:=J.kid hy;rw [hxe] at c3
     rw [hye] at d3
     have FT:=O hxk;have HYK:=O hyk;have HXG:=O (vB R);have HYG:=O (vB hy);have hl1:=E.o.lt;have hl2:=F.o.lt;have hb1:b < wo.heap.size:=alb I.lt a.o.size;have hb2:Y < wo.heap.size:=alb J.lt a.o.size;clear I J R hy hxe hye hxk hyk;have z0:(0:Int)≤(k:Int):=by omega
     have z1:(k:Int) < (n:Int):=by omega
     have XY:=O (show eZ x.1 ≠ eZ y.1→¬ ((aF xs).map eZ=(aF G).map eZ∧t=N) from fun h h2=>by
      refine ze (l:=(aF xs).map eZ) (r:=(aF G).map eZ) (k:=k) ?_ ?_ h h2.1
      ·rw [List.getElem?_map,HXG.o];rfl
      ·rw [List.getElem?_map,HYG.o];rfl)
     go_upto_region 11 with (fail)
     go_cut [7,8] from 44 to 106 (fun u v wx=>∃ p q:Nat,u=.pointer (some ⟨p,0,none⟩)∧v=.pointer (some ⟨q,0,none⟩)∧Hid (bf wx p 50 #[.int .u8 x.1.kind,.string (aH x.1.text),.int .i64 x.1.n,.slice Ka x.1.kids.length ca,.int .i64 x.1.at_])∧Hid (bf wx q 50 #[.int .u8 y.1.kind,.string (aH y.1.text),.int .i64 y.1.n,.slice Kb y.1.kids.length cb,.int .i64 y.1.at_])∧Hid (Below wo.heap.size wo wx))
     case first =>
      go_region
      all_goals
       go_wp2_with fail;go_meet
       refine⟨_,_,rfl,rfl,O (bf.drew ?_),O (bf.drew ?_),O (Below.drew (aG (aG (Below.refl _ _) (ak0 _)) (by simp)))⟩
       ·first | exact (bf.new wo _ _).alloc _ | exact uE (by simp)
       ·first | exact (bf.new wo _ _).alloc _ | exact uE (by simp)
     case rest =>
      obtain⟨p,q,rfl,rfl,P,Q,OB⟩:=hcut;have H:=O (a.o.trans (OB.o.mono a.o.size));have V:=O (E.o.below OB.o E.o.lt);have X:=O (F.o.below OB.o F.o.lt);clear E F a OB x0 x1 y0 y1 c0 c1 c2 c3 c4 d0 d1 d2 d3 d4;have x0:=V.o.cell 0;have x1:=V.o.cell 1;have y0:=X.o.cell 0;have y1:=X.o.cell 1;have c0:=P.o.cell 0;have c1:=P.o.cell 1;have c2:=P.o.cell 2;have c3:=P.o.cell 3;have d0:=Q.o.cell 0;have d1:=Q.o.cell 1;have d2:=Q.o.cell 2;have d3:=Q.o.cell 3;by_cases h1:x.1.kind=y.1.kind
      case neg =>
       have e1:((x.1.kind:Int) != (y.1.kind:Int))=true:=by simp;omega
       have D:=O (XY.o fun h=>h1 (show x.1.kind=y.1.kind from by have h9:=congrArg Nd.kind h;exact h9));clear h1;go_wp2_with fail;go_ret;exact⟨H.o,false,rfl,by simp only [Bool.false_eq_true,false_iff];exact D.o⟩
      have e1:((x.1.kind:Int) != (y.1.kind:Int))=false:=by simp;omega
      by_cases h2:x.1.text=y.1.text
      case neg =>
       have e2:(x.1.text != y.1.text)=true:=by simpa using h2
       have D:=O (XY.o fun h=>h2 (show x.1.text=y.1.text from by have h9:=congrArg Nd.text h;exact h9));have H1:=O h1;clear h1;go_wp2_with fail;go_ret;exact⟨H.o,false,rfl,by simp only [Bool.false_eq_true,false_iff];exact D.o⟩
      have e2:(x.1.text != y.1.text)=false:=by simpa using h2
      by_cases h3:x.1.n=y.1.n
      case neg =>
       have e3:(x.1.n != y.1.n)=true:=by simpa using h3
       have D:=O (XY.o fun h=>h3 (show x.1.n=y.1.n from by have h9:=congrArg Nd.n h;exact h9));have H1:=O h1;have H2:=O h2;clear h1 h2 h3;go_wp2_with fail;go_ret;exact⟨H.o,false,rfl,by simp only [Bool.false_eq_true,false_iff];exact D.o⟩
      have e3:(x.1.n != y.1.n)=false:=by simpa using h3
      obtain⟨C,hnk⟩:∃ C,C=x.1.kids.length:=⟨_,rfl⟩;obtain⟨nk',ae1⟩:∃ C,C=y.1.kids.length:=⟨_,rfl⟩;have H1:=O h1;have H2:=O h2;have H3:=O h3;clear h1 h2 h3;rw [← hnk] at c3 hxl P
      rw [← ae1] at d3 hyl Q
      have Dh:=O hnk;have wX:=O ae1;clear hnk ae1;by_cases h4:C=nk'
      case neg =>
       have e4:((C:Int) != (nk':Int))=true:=by simp;omega
       have D:=O (XY.o fun h=>h4 (by rw [Dh.o,wX.o];have h9:=congrArg (fun z=>z.kids.length) h;exact h9));clear h4;go_wp2_with fail;go_ret;exact⟨H.o,false,rfl,by simp only [Bool.false_eq_true,false_iff];exact D.o⟩
      subst h4;have e4:((C:Int) != (C:Int))=false:=by simp
      go_wp2_with fail;go_loopw [9] (fun i wr=>∃ j:Nat,j≤C∧i=.int .i64 j∧Hid (x.1.kids.take j=y.1.kids.take j)∧Hid (bf wr p 50 #[.int .u8 x.1.kind,.string (aH x.1.text),.int .i64 x.1.n,.slice Ka C ca,.int .i64 x.1.at_])∧Hid (bf wr q 50 #[.int .u8 y.1.kind,.string (aH y.1.text),.int .i64 y.1.n,.slice Kb C cb,.int .i64 y.1.at_])∧Hid (bf wr w.heap.size 32 #[.slice (some ⟨b,o,none⟩) n c,.slice B m d])∧Hid (bf wr (w.heap.size+1) 32 #[.slice (some ⟨Y,o',none⟩) n c',.slice B' m d'])∧Hid (Below w.heap.size w wr)) (fun i _=>C - (intOf i).toNat)
      case atStart=>exact⟨0,ak2 _,rfl,O rfl,P,Q,V,X,H⟩
      case round =>
       clear P Q V X H x0 x1 y0 y1 c0 c1 c2 c3 d0 d1 d2 d3;obtain⟨j,hj,rfl,HJ,P,Q,E,F,a⟩:=hrel;have c3:=P.o.cell 3;have d3:=Q.o.cell 3;by_cases Z:j < C
       ·have i4:decide (j < C)=true:=ak' Z;obtain⟨bk,ok,rfl,hbk,hck⟩:=FT.o.ex (by rw [← Dh.o];omega);obtain⟨bl,ol,rfl,hbl,hcl⟩:=HYK.o.ex (by rw [← wX.o];omega);obtain⟨kp,K⟩:∃ kp,x.1.kids[j]? = some kp:=⟨_,akU (by rw [← Dh.o];exact Z)⟩;obtain⟨kq,L⟩:∃ kp,y.1.kids[j]? = some kp:=⟨_,akU (by rw [← wX.o];exact Z)⟩;have cj:=(a.o.cell (p:=⟨bk,ok+j,none⟩) hbk).trans (hck j kp K);have dj:=(a.o.cell (p:=⟨bl,ol+j,none⟩) hbl).trans (hcl j kq L);have z2:(0:Int)≤(j:Int):=by omega
        have z3:(j:Int) < (C:Int):=by omega
        by_cases f:kp=kq
        ·have HJ2:=O (SS K L f HJ.o);have e5:(kp != kq)=false:=by simp [f]
         clear hck hcl K L f;go_wp2_with fail;go_quiet (fail)
         go_wp2_with fail;exact⟨⟨j+1,by omega,by go_num,HJ2,O (P.o.drewN _),O (Q.o.drewN _),O (E.o.drewN _),O (F.o.drewN _),O (gJ a.o _)⟩,by simp [intOf];omega⟩
        ·have D:=O (XY.o fun h=>ze K L f (show x.1.kids=y.1.kids from by have h9:=congrArg Nd.kids h;exact h9));have e5:(kp != kq)=true:=by simp [f]
         clear hck hcl K L f;go_wp2_with fail;go_quiet (fail)
         go_wp2_with fail;go_ret;exact⟨gJ a.o _,false,rfl,by simp only [Bool.false_eq_true,false_iff];exact D.o⟩
       ·have i4:decide (j < C)=false:=ala Z;have HKK:=O (Iq (by rw [← Dh.o];omega) (by rw [← wX.o];omega) HJ.o)
        have HNX:=O (show ((aF xs).take (k+1)).map eZ=((aF G).take (k+1)).map eZ by
         rw [List.take_add_one,List.take_add_one,HXG.o,HYG.o,List.map_append,List.map_append,HK.o];simp [eZ,H1.o,H2.o,H3.o,HKK.o])
        go_wp2_with fail;exact⟨⟨k+1,by omega,by go_num,HNX,E,F,a⟩,by simp [intOf];omega⟩
    ·have i3:decide (k < n)=false:=ala hkn
     have HEQ:=O (show (aF xs).map eZ=(aF G).map eZ by
      have h9:=HK.o
      rwa [ak4 (by rw [dL,← HN.o];omega),ak4 (by rw [dL,← U.o];omega)] at h9)
     go_wp2_with fail;go_ret;exact⟨a.o,true,rfl,by simp only [true_iff];exact⟨HEQ.o,HIT.o⟩⟩
end
section
open Go.RowKit Mist
theorem JS.put {g:Nat}{w:World}{tb:Nat}{nv iv:Value}{xs:List NV}{a:List Int}(h:JS g w tb nv iv xs a)(i:Nat)(u:Value)(b:(#[nv,iv]:Array Value).setIfInBounds i u=#[nv,iv]):JS g (w.setCell ⟨tb,i,none⟩ u) tb nv iv xs a :=
 ⟨by have:=h.blk.g_ i u;rwa [b] at this,h.lo,ownsRow_setCell_other h.own (bD h.own h.blk (by decide)) _,fun y hy=>ownsRow_setCell_other (h.kids y hy) (bD (h.kids y hy) h.blk (by decide)) _,ownsRow_setCell_other h.row (bD h.row h.blk (by decide)) _,h.far⟩
def kb:Bs:=[108,101,116,32,115,32,61,32,49,32,60,32,50,32,60,32,51,59]
def kc:Bs:=[99,104,111,111,115,101,32,100,58,32,51,46,46,49,59]
def kd:Bs:=[108,101,116,32,97,32,61,32,49,59,32,97,115,107,32,98,108,97,109,101,59]
def lb:List Tok:=[⟨3,[108,101,116],0⟩,⟨1,[115],4⟩,⟨4,[61],6⟩,⟨2,[49],8⟩,⟨4,[60],10⟩,⟨2,[50],12⟩,⟨4,[60],14⟩,⟨2,[51],16⟩,⟨4,[59],17⟩]
def adF (T:Tr):Bool :=
 decide (T.nodes.length≤1000) && (List.range T.nodes.length).all (fun i=>(nd T i).kids.all (fun c=>decide (0≤c) && decide (c < (i:Int)))) && T.nodes.all (fun x=>decide (x.kids.length≤1000000)) &&
 T.nodes.all (fun x=>x.kind != 40 || (match x.kids with
  | [a,b]=>decide (0≤a) && decide (0≤b) && decide (a.toNat < T.nodes.length) && decide (b.toNat < T.nodes.length) && decide (-9999≤(nd T a.toNat).n∧(nd T a.toNat).n≤9999) && decide (-9999≤(nd T b.toNat).n∧(nd T b.toNat).n≤9999)
  | _=>false))
theorem yS {T:Tr}(h:adF T=true):vW T:=by
 unfold adF at h
 rw [ak9,ak9,ak9] at h
 obtain⟨⟨⟨h1,h2⟩,h3⟩,h4⟩:=h;rw [ak8] at h2 h3 h4
 refine⟨?_,?_,fun x d=>of_decide_eq_true (h3 x d),of_decide_eq_true h1⟩
 ·intro i x d c f
  have:=h2 i (List.mem_range.2 (akV.1 d).1)
  rw [mE d,ak8] at this
  have:=this c f
  simpa using this
 ·intro x d t
  have:=h4 x d
  rw [t] at this
  rcases e:x.kids with _ | ⟨a,_ | ⟨b,_ | ⟨c,r⟩⟩⟩
  ·rw [e] at this;simp at this
  ·rw [e] at this;simp at this
  ·rw [e] at this
   simp only [bne_self_eq_false,Bool.false_or,ak9,decide_eq_true_eq] at this
   obtain⟨⟨⟨⟨⟨j,k⟩,m⟩,n⟩,o⟩,q⟩:=this
   refine⟨a.toNat,b.toNat,?_,m,n,o,q⟩
   rw [Int.toNat_of_nonneg j,Int.toNat_of_nonneg k]
  ·rw [e] at this;simp at this
def YH (n:Nd):Bool:=decide (n.kind < 256) && decide (n.text.length≤100000000) && decide (qE≤n.n∧n.n≤lD) && decide (qE≤n.at_∧n.at_≤lD) && n.kids.all (fun c=>decide (qE≤c∧c≤lD))
theorem J8 {ns:List Nd}(h:ns.all YH=true):Dt ns:=by
 intro n a
 have:=ak8.1 h n a
 unfold YH at this
 simp only [ak9,decide_eq_true_eq,ak8] at this
 obtain⟨⟨⟨⟨h1,h2⟩,h3⟩,h4⟩,h5⟩:=this;exact⟨h1,h2,h3,h4,h5⟩
def pfB (l:List Tok):Bool:=decide (l.length≤1000) && l.all (fun t=>(Mist.kind t.text == t.kind) && decide (t.text.length≤2000))
theorem SA {l:List Tok}(h:pfB l=true):PF l:=by
 unfold pfB at h
 rw [ak9,ak8] at h
 refine⟨of_decide_eq_true h.1,fun t a=>?_,fun t a=>?_⟩
 ·have:=h.2 t a
  rw [ak9] at this
  exact eq_of_beq this.1
 ·have:=h.2 t a
  rw [ak9] at this
  exact of_decide_eq_true this.2
theorem acn {s:Bs}{l:List Tok}{n f k:Nat}{T:Tr}(w:World)(I:Mist.read s=(l,0,0))(hF:PF l)(H:prog l (s.length:Int) n f 0 [] []=some (.ok T.items k T.nodes))(D:Env w)(G:s.length≤100000000)(r:vW T)(F:gM T=(0,0)) :
  Calls Tryz.prog 8 #[.string (aH s)] w fun e w'=>Below w.heap.size w w'∧∃ A B c d xs,e=.returned (.tuple #[.agg #[.slice A T.nodes.length c,.slice B T.items.length d],.int .i64 0,.int .i64 0])∧aF xs=T.nodes∧xs.length=T.nodes.length∧T.nodes.length≤c∧rQ w' A B xs T.items:=by
 refine (Ia s l n f k T w I hF H D G r).mono ?_;rintro e w' ⟨E,⟨h1,_⟩ | ⟨_,v,xs,g,rfl,j,N,t⟩⟩
 ·rw [F] at h1;exact absurd rfl h1
 ·have b:xs.length=T.nodes.length:=by rw [← j,dL]
  have h:∀ x ∈ xs,x.1.kids.length≤1000000:=fun x m=>r.kids x.1 (by rw [← j];exact List.mem_map_of_mem m)
  obtain⟨A,B,c,d,hv,C⟩:=t.tAt h;obtain⟨⟨nv,iv,q,a,u,_,_⟩,_⟩:=t;rw [hv] at a
  injection a with h1
  injection h1 with h2
  injection h2 with i _
  rw [← i] at u
  have M:xs.length≤c:=by
   rcases u.2 with ⟨o,J⟩ | ⟨L,cap,y,o,_,_,h3,_⟩
   ·omega
   ·injection o with _ _ K
    omega
  exact⟨E,A,B,c,d,xs,by rw [hv,b],j,b,by omega,C⟩
end
section
open Go.RowKit Mist
attribute [local go_sem] ah aM aV au ak
structure QS (g:Nat) (tv:Value) (l:List Tok) (iv:Value) (w:World) (s:RS) (xs:List NV) (nv:Value):Prop where
 blk:bf w g 78 #[tv,.int .i64 s.k,nv,iv,.bool s.bad]
 own:w.ownsRow g 50 5 nv xs.length (jK xs)
 kids:∀ x ∈ xs,dD w x.2 x.1.kids
 toks:A9 w g tv l
 ns:aF xs=s.ns
 le:s.k≤l.length
section
variable {g:Nat} {tv:Value} {l:List Tok} {iv:Value} {w w':World} {s:RS} {xs:List NV} {nv:Value}
theorem QS.lt (h:QS g tv l iv w s xs nv):g < w.heap.size:=h.blk.lt
theorem QS.len (h:QS g tv l iv w s xs nv):xs.length=s.ns.length:=by rw [← h.ns,dL]
theorem QS.Fj (h:QS g tv l iv w s xs nv):∀ b,nv.ownBlock=some b→g≤b:=fun b a=>(h.own.lt b a).1
theorem QS.iU (h:QS g tv l iv w s xs nv):∀ b,nv.ownBlock=some b→b < w.heap.size:=fun b a=>(h.own.lt b a).2
theorem QS.low (h:QS g tv l iv w s xs nv){row:Option Nat}(m:Mv g nv.ownBlock w row w'):Below g w w':=m.below h.lt (ak0 _) h.Fj
theorem QS.kZ (h:QS g tv l iv w s xs nv){row:Option Nat}(m:Mv g nv.ownBlock w row w'){v:Value}{ks:List Int}(a:dD w v ks):dD w' v ks :=
 m.row a (bD a h.blk (by decide)) (eY a h.own (by decide))
theorem QS.below (h:QS g tv l iv w s xs nv)(a:Below w.heap.size w w'):QS g tv l iv w' s xs nv :=
 ⟨h.blk.below a h.lt,own_below h.own a,fun x b=>own_below (h.kids x b) a,h.toks.below (a.mono (ak1 h.lt)),h.ns,h.le⟩
theorem QS.alloc (h:QS g tv l iv w s xs nv)(o:Obj):QS g tv l iv (w.alloc o) s xs nv:=h.below ((Below.refl _ _).alloc (ak0 _) o)
theorem QS.drew (h:QS g tv l iv w s xs nv):QS g tv l iv w.drew s xs nv:=h.below (Below.drew (Below.refl _ _))
theorem QS.set1 (h:QS g tv l iv w s xs nv)(k:Nat)(a:k≤l.length):QS g tv l iv (w.setCell ⟨g,1,none⟩ (.int .i64 (k:Int))) ⟨k,s.bad,s.ns⟩ xs nv :=
 have m:Mv g nv.ownBlock w nv.ownBlock _:=Mv.g_ h.blk 1 (.int .i64 (k:Int))
 ⟨(by have:=h.blk.g_ 1 (.int .i64 (k:Int));simpa using this),ownsRow_setCell_other h.own (bD h.own h.blk (by decide)) _,fun x b=>h.kZ m (h.kids x b),h.toks.below (h.low m),h.ns,a⟩
theorem QS.dU (h:QS g tv l iv w s xs nv)(a:s.k < l.length):QS g tv l iv (w.setCell ⟨g,1,none⟩ (.int .i64 ((s.k:Int)+1))) s.dU xs nv:=h.set1 (s.k+1) a
theorem QS.fail (h:QS g tv l iv w s xs nv):QS g tv l iv (w.setCell ⟨g,4,none⟩ (.bool true)) s.fail xs nv :=
 have m:Mv g nv.ownBlock w nv.ownBlock _:=Mv.g_ h.blk 4 (.bool true)
 ⟨(show bf _ g _ #[tv,.int .i64 (s.k:Int),nv,iv,.bool true] from by have:=h.blk.g_ 4 (.bool true);simpa using this),ownsRow_setCell_other h.own (bD h.own h.blk (by decide)) _,fun x a=>h.kZ m (h.kids x a),h.toks.below (h.low m),h.ns,h.le⟩
theorem QS.mv1 (h:QS g tv l iv w s xs nv)(v:Value):Mv g nv.ownBlock w nv.ownBlock (w.setCell ⟨g,1,none⟩ v):=Mv.g_ h.blk 1 v
theorem QS.mv4 (h:QS g tv l iv w s xs nv)(v:Value):Mv g nv.ownBlock w nv.ownBlock (w.setCell ⟨g,4,none⟩ v):=Mv.g_ h.blk 4 v
theorem QS.add (h:QS g tv l iv w s xs nv){w1:World}{gB:Value}{x:NV}(c:w.grownBy w1 nv.ownBlock)(a:w1.ownsRow g 50 5 gB (xs.length+1) (jK xs ++ iL x))(b:dD w x.2 x.1.kids):QS g tv l iv (w1.setCell ⟨g,2,none⟩ gB) (s.put x.1).2 (xs ++ [x]) gB:=by
 have d:=h.blk.grown c (fun e=>bD h.own h.blk (by decide) e.symm)
 have keep:∀ {v:Value} {cs:List Int},dD w v cs→dD (w1.setCell ⟨g,2,none⟩ gB) v cs:=fun b =>
  ownsRow_setCell_other (b.kept c (eY b h.own (by decide))) (bD (b.kept c (eY b h.own (by decide))) d (by decide)) _
 have f:Below g w (w1.setCell ⟨g,2,none⟩ gB):=eF ((Below.refl _ _).grown c (ak1 h.lt) h.Fj) (ak0 _)
 refine⟨?_,?_,fun y hy=>?_,h.toks.below f,?_,h.le⟩
 ·show bf _ g _ #[tv,.int .i64 (s.k:Int),gB,iv,.bool s.bad]
  have:=d.g_ 2 gB;simpa using this
 ·rw [ak5,pY];have e:jK [x]=iL x:=by simp [jK]
  rw [e];exact ownsRow_setCell_other a (bD a d (by decide)) _
 ·rcases List.mem_append.1 hy with hy | hy
  ·exact keep (h.kids y hy)
  ·rw [List.mem_singleton.1 hy];exact keep b
 ·rw [Eh,h.ns];rfl
theorem QS.new (h:QS g tv l iv w s xs nv){b:Nat}(a:w.heap.size≤b):Far g nv xs b :=
 ⟨alb h.lt a,fun e=>by have:=h.iU b e;omega,fun x c e=>by have:=(World.ownsRow.lt (h.kids x c) b e).2;omega⟩
theorem QS.far (h:QS g tv l iv w s xs nv){b:Nat}(f:Far g nv xs b)(i:Nat)(u:Value):QS g tv l iv (w.setCell ⟨b,i,none⟩ u) s xs nv :=
 ⟨h.blk.far (p:=⟨b,i,none⟩) (Nat.ne_of_lt f.lt) u,ownsRow_setCell_other h.own f.row u,fun x a=>ownsRow_setCell_other (h.kids x a) (f.kids x a) u,h.toks.below (eF (Below.refl _ _) (ak1 f.lt)),h.ns,h.le⟩
theorem Qy (h:l.length≤s.k):s.place l=0:=by unfold RS.place;rw [mU l s.k h]
theorem U4 (h:l.length≤s.k):s.next l=[]:=by
 unfold RS.next;split
 ·rfl
 ·unfold tx;rw [mU l s.k h]
theorem UY (h:l.length≤s.k):s.kind l=0:=by
 unfold RS.kind;split
 ·rfl
 ·rw [mU l s.k h]
end
theorem dh (g:Nat)(tv:Value)(l:List Tok)(iv:Value)(w:World)(s:RS)(xs:List NV)(nv:Value)(h:QS g tv l iv w s xs nv)(v:l.length≤1000) :
  Calls Tryz.prog 112 #[.pointer (some ⟨g,0,none⟩)] w fun e w'=>e=.returned (.int .i64 (s.place l))∧Below w.heap.size w w':=by
 have u:=h.blk.cell 0;have c1:=h.blk.cell 1;have n:=h.lt;have m:=h.le;obtain⟨A,c,rfl,j,a⟩:=h.toks;have r:=O (show mH w (.slice A l.length c) l from ⟨A,c,rfl,j,a.more (ak1 n)⟩);clear a h;obtain⟨k,f⟩:∃ k,k=s.k:=⟨_,rfl⟩;rw [← f] at c1 m
 by_cases i:k < l.length
 ·obtain⟨b,o,rfl,a⟩:=r.o.aaY (by omega);have B:=a.at_ k i;have d:=O (show s.place l=(tg l k).at_ by rw [f];rfl);clear a f;have t:decide ((k:Int) < (l.length:Int))=true:=ak' (by omega);have q:decide (k < l.length)=true:=ak' (by omega);have x:(0:Int)≤(k:Int):=by omega
  have y:(k:Int) < (l.length:Int):=by omega
  go_in
  go_wp2_with fail;go_quiet (fail)
  go_wp2_with fail;go_quiet (fail)
  go_wp2_with fail;go_ret
  refine⟨by rw [d.o];first | done | rfl,?_⟩
  repeat (first | exact Below.refl _ _ | refine Below.drew ?_ | refine gJ ?_ _)
 ·have d:=O (Qy (l:=l) (s:=s) (by omega));have t:decide ((k:Int) < (l.length:Int))=false:=ala (by omega);have q:decide (k < l.length)=false:=ala (by omega);go_in
  go_wp2_with fail;go_quiet (fail)
  go_wp2_with fail;go_ret
  refine⟨by rw [d.o];first | done | rfl,?_⟩
  repeat (first | exact Below.refl _ _ | refine Below.drew ?_ | refine gJ ?_ _)
theorem aX (g:Nat)(tv:Value)(l:List Tok)(iv:Value)(w:World)(s:RS)(xs:List NV)(nv:Value)(h:QS g tv l iv w s xs nv)(x:l.length≤1000) :
  Calls Tryz.prog 111 #[.pointer (some ⟨g,0,none⟩)] w fun e w'=>e=.returned (.string (aH (s.next l)))∧Below w.heap.size w w':=by
 have v:=h.blk.cell 0;have c1:=h.blk.cell 1;have c4:=h.blk.cell 4;have q:=h.lt;have n:=h.le;obtain⟨A,c,rfl,m,i⟩:=h.toks;have t:=O (show mH w (.slice A l.length c) l from ⟨A,c,rfl,m,i.more (ak1 q)⟩);clear i h;obtain⟨k,f⟩:∃ k,k=s.k:=⟨_,rfl⟩;rw [← f] at c1 n
 cases a:s.bad
 case true =>
  have d:=O (show s.next l=[] by unfold RS.next;rw [a];rfl);rw [a] at c4
  clear a f;go_in
  go_wp2_with fail;go_quiet (fail)
  go_wp2_with fail;go_ret
  refine⟨by rw [d.o];first | done | rfl,?_⟩
  repeat (first | exact Below.refl _ _ | refine Below.drew ?_ | refine gJ ?_ _)
 rw [a] at c4
 by_cases j:k < l.length
 ·obtain⟨b,o,rfl,i⟩:=t.o.aaY (by omega);have C:=i.text k j;have d:=O (show s.next l=(tg l k).text by unfold RS.next;rw [a,f];rfl);clear i f a;have u:decide ((l.length:Int)≤(k:Int))=false:=ala (by omega);have r:decide (l.length≤k)=false:=ala (by omega);have y:(0:Int)≤(k:Int):=by omega
  have B:(k:Int) < (l.length:Int):=by omega
  go_in
  go_wp2_with fail;go_quiet (fail)
  go_wp2_with fail;go_quiet (fail)
  go_wp2_with fail;go_ret
  refine⟨by rw [d.o];first | done | rfl,?_⟩
  repeat (first | exact Below.refl _ _ | refine Below.drew ?_ | refine gJ ?_ _)
 ·have d:=O (U4 (l:=l) (s:=s) (by omega));have u:decide ((l.length:Int)≤(k:Int))=true:=ak' (by omega);have r:decide (l.length≤k)=true:=ak' (by omega);clear a f;go_in
  go_wp2_with fail;go_quiet (fail)
  go_wp2_with fail;go_ret
  refine⟨by rw [d.o];first | done | rfl,?_⟩
  repeat (first | exact Below.refl _ _ | refine Below.drew ?_ | refine gJ ?_ _)
theorem iE (g:Nat)(tv:Value)(l:List Tok)(iv:Value)(w:World)(s:RS)(xs:List NV)(nv:Value)(h:QS g tv l iv w s xs nv)(x:l.length≤1000) :
  Calls Tryz.prog 113 #[.pointer (some ⟨g,0,none⟩)] w fun e w'=>e=.returned (.int .u8 (s.kind l))∧Below w.heap.size w w':=by
 have v:=h.blk.cell 0;have c1:=h.blk.cell 1;have c4:=h.blk.cell 4;have q:=h.lt;have n:=h.le;obtain⟨A,c,rfl,m,i⟩:=h.toks;have t:=O (show mH w (.slice A l.length c) l from ⟨A,c,rfl,m,i.more (ak1 q)⟩);clear i h;obtain⟨k,f⟩:∃ k,k=s.k:=⟨_,rfl⟩;rw [← f] at c1 n
 cases a:s.bad
 case true =>
  have d:=O (show s.kind l=0 by unfold RS.kind;rw [a];rfl);rw [a] at c4
  clear a f;go_in
  go_wp2_with fail;go_quiet (fail)
  go_wp2_with fail;go_ret
  refine⟨by rw [d.o];first | done | rfl,?_⟩
  repeat (first | exact Below.refl _ _ | refine Below.drew ?_ | refine gJ ?_ _)
 rw [a] at c4
 by_cases j:k < l.length
 ·obtain⟨b,o,rfl,i⟩:=t.o.aaY (by omega);have C:=i.kind k j;have d:=O (show s.kind l=(tg l k).kind by unfold RS.kind;rw [a,f];rfl);clear i f a;have u:decide ((l.length:Int)≤(k:Int))=false:=ala (by omega);have r:decide (l.length≤k)=false:=ala (by omega);have y:(0:Int)≤(k:Int):=by omega
  have B:(k:Int) < (l.length:Int):=by omega
  go_in
  go_wp2_with fail;go_quiet (fail)
  go_wp2_with fail;go_quiet (fail)
  go_wp2_with fail;go_ret
  refine⟨by rw [d.o];first | done | rfl,?_⟩
  repeat (first | exact Below.refl _ _ | refine Below.drew ?_ | refine gJ ?_ _)
 ·have d:=O (UY (l:=l) (s:=s) (by omega));have u:decide ((l.length:Int)≤(k:Int))=true:=ak' (by omega);have r:decide (l.length≤k)=true:=ak' (by omega);clear a f;go_in
  go_wp2_with fail;go_quiet (fail)
  go_wp2_with fail;go_ret
  refine⟨by rw [d.o];first | done | rfl,?_⟩
  repeat (first | exact Below.refl _ _ | refine Below.drew ?_ | refine gJ ?_ _)
theorem eT (g:Nat)(tv:Value)(l:List Tok)(iv:Value)(w:World)(s:RS)(xs:List NV)(nv:Value)(x:Bs)(t:x ≠ [])(h:QS g tv l iv w s xs nv)(r:l.length≤1000) :
  Calls Tryz.prog 69 #[.pointer (some ⟨g,0,none⟩),.string (aH x)] w fun e w'=>e=.returned (.tuple #[])∧QS g tv l iv w' (s.take l x) xs nv∧Mv g nv.ownBlock w nv.ownBlock w':=by
 have H:=O h;clear h;go_in
 go_wp2_with fail;refine (aX g tv l iv _ s xs nv H.o r).mono ?_;rintro e w1⟨rfl,j⟩;have a:=O (H.o.below j);have n:=O (Mv.of_below (g:=g) (r0:=nv.ownBlock) j);clear j;have c1:=a.o.blk.cell 1;have u:=a.o.blk.frozen 1;have c4:=a.o.blk.cell 4;have A:=a.o.blk.frozen 4;have m:=a.o.le;by_cases e:s.next l=x
 ·have q:=(dM (l:=l) (s:=s) (by rw [e];exact t)).2;have f:=O (show s.take l x=s.dU by unfold RS.take;rw [if_pos e]);have i:(s.next l == x)=true:=by rw [e];simp
  have d:=O (a.o.dU q);have b:=O (n.o.trans (a.o.mv1 (.int .i64 ((s.k:Int)+1))));obtain⟨k,c⟩:∃ k,k=s.k:=⟨_,rfl⟩;rw [← c] at c1 m q d b
  obtain⟨y,hy⟩:∃ y,y=s.next l:=⟨_,rfl⟩;rw [← hy] at i ⊢
  clear e hy c;go_wp2_with fail;go_end0
  exact⟨rfl,by rw [f.o];exact d.o,b.o⟩
 ·have f:=O (show s.take l x=s.fail by unfold RS.take;rw [if_neg e]);have i:(s.next l == x)=false:=by simpa using e
  have d:=O a.o.fail;have b:=O (n.o.trans (a.o.mv4 (.bool true)));obtain⟨y,hy⟩:∃ y,y=s.next l:=⟨_,rfl⟩;rw [← hy] at i ⊢
  clear e hy;go_wp2_with fail;refine bodyPost_ret (v:=.tuple #[]) (by simp [results,Tryz.f69,go_sem]) rfl ?_;exact⟨rfl,by rw [f.o];exact d.o,b.o⟩
theorem iF (g:Nat)(tv:Value)(l:List Tok)(iv:Value)(w:World)(s:RS)(xs:List NV)(nv:Value)(c:Nat)(B:c ≠ 0)(C:c < 256)(h:QS g tv l iv w s xs nv)(A:l.length≤1000) :
  Calls Tryz.prog 115 #[.pointer (some ⟨g,0,none⟩),.int .u8 c] w fun e w'=>e=.returned (.string (aH (s.word l c).1))∧QS g tv l iv w' (s.word l c).2 xs nv∧Mv g nv.ownBlock w nv.ownBlock w':=by
 have H:=O h;clear h;go_in
 go_wp2_with fail;refine (aX g tv l iv _ s xs nv H.o A).mono ?_;rintro e w0⟨rfl,f⟩;have r:=O (H.o.below f);have x:=O (Mv.of_below (g:=g) (r0:=nv.ownBlock) f);clear f;go_wp2_with fail;refine (iE g tv l iv _ s xs nv r.o A).mono ?_;rintro e w1⟨rfl,f⟩;have a:=O (r.o.below f);have v:=O (x.o.trans (Mv.of_below (g:=g) (r0:=nv.ownBlock) f));clear f r x;have c1:=a.o.blk.cell 1;have D:=a.o.blk.frozen 1;have c4:=a.o.blk.cell 4;have E:=a.o.blk.frozen 4;have u:=a.o.le;by_cases e:s.kind l=c
 ·have y:=(yX (l:=l) (s:=s) (by rw [e];exact B)).2;have i:=O (show s.word l c=(s.next l,s.dU) by unfold RS.word;rw [if_pos e]);have t:(s.kind l == c)=true:=by rw [e];simp
  have d:((s.kind l:Int) == (c:Int))=true:=by rw [e];simp
  have n:=O (a.o.dU y);have b:=O (v.o.trans (a.o.mv1 (.int .i64 ((s.k:Int)+1))));obtain⟨k,j⟩:∃ k,k=s.k:=⟨_,rfl⟩;rw [← j] at c1 u y n b
  obtain⟨q,m⟩:∃ q,q=s.kind l:=⟨_,rfl⟩;rw [← m] at t d ⊢
  clear e m j;go_wp2_with fail;go_ret;exact⟨by rw [i.o];first | done | rfl,by rw [i.o];exact n.o,b.o⟩
 ·have i:=O (show s.word l c=([],s.fail) by unfold RS.word;rw [if_neg e]);have t:(s.kind l == c)=false:=by simpa using e
  have d:((s.kind l:Int) == (c:Int))=false:=by simp;omega
  have n:=O a.o.fail;have b:=O (v.o.trans (a.o.mv4 (.bool true)));obtain⟨q,m⟩:∃ q,q=s.kind l:=⟨_,rfl⟩;rw [← m] at t d ⊢
  clear e m;go_wp2_with fail;go_ret;exact⟨by rw [i.o];first | done | rfl,by rw [i.o];exact n.o,b.o⟩
theorem dZ (g:Nat)(tv:Value)(l:List Tok)(iv:Value)(w:World)(s:RS)(xs:List NV)(nv:Value)(K:Nat)(p:Int)(x:Bs)(N:Int)(D:Value)(kids:List Int)(h:QS g tv l iv w s xs nv)(q:dD w D kids)(P:s.ns.length≤1000000) :
  Calls Tryz.prog 121 #[.pointer (some ⟨g,0,none⟩),.agg #[.int .u8 K,.string (aH x),.int .i64 N,D,.int .i64 p]] w fun e w'=>e=.returned (.int .i64 (s.ns.length:Int))∧∃ gB,QS g tv l iv w' (s.put ⟨K,x,N,kids,p⟩).2 (xs ++ [(⟨K,x,N,kids,p⟩,D)]) gB∧Mv g nv.ownBlock w gB.ownBlock w':=by
 obtain⟨A,c,rfl⟩:=d_ q;obtain⟨R,r,v,y,B⟩:=info_parts Hy;have k:=h.len;have H:=O h;clear h;have G:=O q;clear q;have M:=H.o.lt;have c2:=H.o.blk.cell 2;have S:=H.o.blk.frozen 2;rw [← k] at P ⊢
 clear k;obtain⟨d,f⟩:∃ d,d=kids.length:=⟨_,rfl⟩;rw [← f];have I:=O f;clear f;have Q:¬ w.heap.size=g:=by omega
 go_in
 go_wp2_with fail
 go_region_law ((refine step_append_lies _ (by rfl) _ _ _ (by rfl) g 50 R _ 5 64 Tryz.underlying29 r v y B rfl (by omega) _ xs.length (jK xs) (by rfl) (((H.o.own.alloc _).alloc _).drew)
                  ⟨w.heap.size+1,0,none⟩ 1 1 (iL (⟨K,x,N,kids,p⟩,.slice A d c)) (by rfl) (by rfl) (World.news_of_block (cs:=#[.int .u8 K,.string (aH x),.int .i64 N,.slice A d c,.int .i64 p]) (t:=50) (fr:=(0,0)) (vo w _ _)) (by intro u F;simp [iL] at F;rcases F with rfl | rfl | rfl | rfl | rfl <;> rfl)
                  (by omega) (by simp only [maxLen];omega) (by omega) (by simp;omega) (w.heap.size+2) (by simp) ?_;intro T cap w1 b a j E;have C:=((H.o.alloc (.cells #[.int .u8 K,.string (aH x),.int .i64 N,.slice A d c,.int .i64 p] 50)).alloc (.cells #[.int .u8 K,.string (aH x),.int .i64 N,.slice A d c,.int .i64 p] 50)).drew.blk.grown a (fun e=>bD H.o.own H.o.blk (by decide) e.symm);have J:=C.cell 2;have L:=C.frozen 2;clear C))
 all_goals
  have i:=O a;clear a;have n:=O b;clear b;have m:=O j;clear j;go_wp2;go_ret
  refine⟨by (first | rfl|(congr 2;omega)),_,QS.add ((H.o.alloc (.cells #[.int .u8 K,.string (aH x),.int .i64 N,.slice A d c,.int .i64 p] 50)).alloc (.cells #[.int .u8 K,.string (aH x),.int .i64 N,.slice A d c,.int .i64 p] 50)).drew i.o n.o (I.o ▸ own_below G.o (Below.drew (aG (aG (Below.refl _ _) (ak0 _)) (by simp)))),?_⟩
  refine Mv.ab6 ?_;refine Mv.trans (r1:=nv.ownBlock) (Mv.dK (Mv.dK Mv.refl)).YV (Mv.grown i.o ?_);rcases m.o with e | e
  ·left;rw [e];rfl
  ·right;rw [e];simp [Value.ownBlock]
theorem ku (w:World)(ks:List Int)(h:ks.length≤1000:=by first|(simp;done)|(simp;omega)):dD (w.alloc (.cells (intCells ks).toArray 3)) (.slice (some ⟨w.heap.size,0,none⟩) ks.length ks.length) ks:=by
 have:=World.ownsRow_lit (base:=0) (e:=3) (size:=1) w (intCells ks).toArray ks.length (ak2 _) (by simp only [maxLen];omega) (by simp [intCells])
 unfold dD
 simpa using this
theorem QS.sP {g:Nat}{tv:Value}{l:List Tok}{iv:Value}{w:World}{s:RS}{xs:List NV}{nv:Value}(h:QS g tv l iv w s xs nv):Mv g nv.ownBlock w nv.ownBlock (w.setCell ⟨g,1,none⟩ (.int .i64 ((s.k:Int)+1))):=h.mv1 _
structure Mw (g:Nat) (w:World) (xs:List NV) (nv:Value) (w':World) (xs':List NV) (gB:Value):Prop where
 mv:Mv g nv.ownBlock w gB.ownBlock w'
 new:∃ ys,xs'=xs ++ ys∧∀ y ∈ ys,∀ b,y.2.ownBlock=some b→w.heap.size≤b
section
variable {g:Nat} {w w1 w2:World} {xs xs1 xs2:List NV} {nv gT Oe:Value}
theorem Mw.refl:Mw g w xs nv w xs nv:=⟨Mv.refl,[],by simp,fun y hy=>by cases hy⟩
theorem Mw.size (h:Mw g w xs nv w1 xs1 gT):w.heap.size≤w1.heap.size:=h.mv.size
theorem Mw.trans (h:Mw g w xs nv w1 xs1 gT)(k:Mw g w1 xs1 gT w2 xs2 Oe):Mw g w xs nv w2 xs2 Oe:=by
 obtain⟨i,e,hy⟩:=h.new;obtain⟨j,d,f⟩:=k.new
 refine⟨h.mv.trans k.mv,i ++ j,by rw [d,e,List.append_assoc],fun y a b c=>?_⟩
 rcases List.mem_append.1 a with a | a
 ·exact hy y a b c
 ·exact Nat.le_trans h.size (f y a b c)
theorem Mw.jU (h:Mw g w xs nv w1 xs1 gT)(k:Mv g gT.ownBlock w1 Oe.ownBlock w2):Mw g w xs nv w2 xs1 Oe:=⟨h.mv.trans k,h.new⟩
theorem Mw.gy {tv iv:Value}{l:List Tok}{s:RS}{x:NV}(h:Mw g w xs nv w1 xs1 gT)(i:QS g tv l iv w2 s (xs1 ++ [x]) Oe)(k:Mv g gT.ownBlock w1 Oe.ownBlock w2)(d:∀ b,x.2.ownBlock=some b→w.heap.size≤b):Mw g w xs nv w2 (xs1 ++ [x]) Oe:=by
 obtain⟨f,e,hy⟩:=h.new
 refine⟨h.mv.trans k,f ++ [x],by rw [e,List.append_assoc],fun y a b c=>?_⟩
 rcases List.mem_append.1 a with a | a
 ·exact hy y a b c
 ·rw [List.mem_singleton.1 a] at c;exact d b c
theorem Mw.aU (h:Mw g w xs nv w1 xs1 gT)(a:Below w1.heap.size w1 w2):Mw g w xs nv w2 xs1 gT:=⟨h.mv.aU a,h.new⟩
theorem Mw.dK {o:Obj}(h:Mw g w xs nv w1 xs1 gT):Mw g w xs nv (w1.alloc o) xs1 gT:=⟨h.mv.dK,h.new⟩
theorem Mw.jV {b i:Nat}{u:Value}(h:Mw g w xs nv w1 xs1 gT)(a:w.heap.size≤b):Mw g w xs nv (w1.setCell ⟨b,i,none⟩ u) xs1 gT:=⟨h.mv.jV a,h.new⟩
theorem Mw.ne (h:Mw g w xs nv w1 xs1 gT){b:Nat}(a:b < w.heap.size)(c:some b ≠ nv.ownBlock):some b ≠ gT.ownBlock:=h.mv.ne a c
theorem Mw.blk {b:Nat}{T:TypeId}{cs:Array Value}(h:Mw g w xs nv w1 xs1 gT)(a:bf w b T cs)(c:b ≠ g)(d:some b ≠ nv.ownBlock):bf w1 b T cs:=h.mv.blk a c d
theorem lZ {k n c:Nat}(h:w.heap.size≤k):∀ b,(Value.slice (some ⟨k,0,none⟩) n c).ownBlock=some b→w.heap.size≤b:=fun b a=>by
 simp [Value.ownBlock] at a;omega
theorem kS:∀ b,(Value.slice none 0 0).ownBlock=some b→w.heap.size≤b:=fun b a=>by simp [Value.ownBlock] at a
end
def QC (F:Nat)(l:List Tok)(n:Nat)(j:Job):Prop :=
 ∀ (g:Nat) (tv iv:Value) (w:World) (s:RS) (xs:List NV) (nv:Value) (qs:List Int) (s':RS),bH l n j s=some (qs,s')→s'.ns.length≤100000→QS g tv l iv w s xs nv →
  Calls Tryz.prog F #[.pointer (some ⟨g,0,none⟩)] w fun e w'=>e=.returned (.int .i64 (hd qs))∧∃ xs' gB,QS g tv l iv w' s' xs' gB∧Mw g w xs nv w' xs' gB
theorem m_ (g:Nat)(tv:Value)(l:List Tok)(iv:Value)(w:World)(s:RS)(xs:List NV)(nv:Value)(a:∀ t ∈ l,t.text.length≤100000000)(h:QS g tv l iv w s xs nv)(i:l.length≤1000) :
  Calls Tryz.prog 119 #[.pointer (some ⟨g,0,none⟩)] w fun e w'=>e=.returned (.int .i64 (kH (s.word l 2).1))∧QS g tv l iv w' (s.word l 2).2 xs nv∧Mv g nv.ownBlock w nv.ownBlock w':=by
 have H:=O h;clear h
 have d:=O (show (s.word l 2).1.length≤100000000 by
  unfold RS.word;split
  ·rename_i e
   have h9:=yX (l:=l) (s:=s) (by rw [e];simp);unfold RS.next;rw [h9.1];exact a _ (tu l s.k h9.2)
  ·simp)
 clear a;go_in
 go_wp2_with fail;refine (iF g tv l iv _ s xs nv 2 (by simp) (by simp) H.o i).mono ?_;rintro e w1⟨rfl,h,m⟩;have c:=O h;have f:=O m;clear h m;go_wp2_with fail;refine (Nj _ _ d.o).mono ?_;rintro e w2⟨rfl,b⟩;go_wp2_with fail;go_ret;exact⟨rfl,c.o.below b,f.o.aU b⟩
theorem ac1 (l:List Tok)(G:l.length≤1000)(m:Nat)(C:QC 181 l m (.lv .and))(g:Nat)(tv iv:Value)(w:World)(s:RS)(xs:List NV)(nv:Value)(K:Nat)(a:Int)(d:List Int)(f:RS)(y:bH l m (.lv .and) s.dU=some (d,f))(I:f.ns.length≤100000)(A:s.next l ≠ [])(h:QS g tv l iv w s xs nv) :
  Calls Tryz.prog 182 #[.pointer (some ⟨g,0,none⟩),.int .u8 K,.int .i64 a,.int .i64 3] w fun e w'=>e=.returned (.int .i64 (f.ns.length:Int))∧∃ c gB,QS g tv l iv w' (f.put ⟨K,[],0,[a,hd d],s.place l⟩).2 c gB∧Mw g w xs nv w' c gB:=by
 have i:=O h;have u:=O (Mw.refl (g:=g) (w:=w) (xs:=xs) (nv:=nv));have B:=O y;have D:=O (dM A).2;have H:=h.le;clear h y A;go_in
 go_wp2_with fail;refine (dh g tv l iv _ _ _ _ i.o G).mono ?_;rintro e w1⟨rfl,k⟩;have b:=O (i.o.below k);have v:=O (u.o.aU k);clear k i u;have n:=D.o;have c1:=b.o.blk.cell 1;have F:=b.o.blk.frozen 1;have q:=O (b.o.dU n);have x:=O (v.o.jU b.o.sP);clear b v;go_wp2_with fail;clear c1 F;go_wp2_with fail;refine (C g tv iv _ _ _ _ _ _ B.o I q.o).mono ?_;rintro e N⟨rfl,M,L,h,m⟩;have r:=O h;have j:=O (x.o.trans m);clear h m q x;go_wp2_with fail;refine (dZ g tv l iv _ _ _ _ K _ _ _ _ [a,hd d] (r.o.alloc _) (ku _ [a,hd d]) (by omega)).mono ?_;rintro e P⟨rfl,J,h,m⟩;have t:=O h;have E:=O (j.o.dK.gy t.o m (lZ j.o.size));clear h m r j;go_wp2_with fail;go_ret;exact⟨rfl,_,_,t.o,E.o⟩
theorem aaP (l:List Tok)(G:l.length≤1000)(m:Nat)(C:QC 194 l m (.lv .not))(g:Nat)(tv iv:Value)(w:World)(s:RS)(xs:List NV)(nv:Value)(K:Nat)(a:Int)(d:List Int)(f:RS)(y:bH l m (.lv .not) s.dU=some (d,f))(I:f.ns.length≤100000)(A:s.next l ≠ [])(h:QS g tv l iv w s xs nv) :
  Calls Tryz.prog 182 #[.pointer (some ⟨g,0,none⟩),.int .u8 K,.int .i64 a,.int .i64 4] w fun e w'=>e=.returned (.int .i64 (f.ns.length:Int))∧∃ c gB,QS g tv l iv w' (f.put ⟨K,[],0,[a,hd d],s.place l⟩).2 c gB∧Mw g w xs nv w' c gB:=by
 have i:=O h;have u:=O (Mw.refl (g:=g) (w:=w) (xs:=xs) (nv:=nv));have B:=O y;have D:=O (dM A).2;have H:=h.le;clear h y A;go_in
 go_wp2_with fail;refine (dh g tv l iv _ _ _ _ i.o G).mono ?_;rintro e w1⟨rfl,k⟩;have b:=O (i.o.below k);have v:=O (u.o.aU k);clear k i u;have n:=D.o;have c1:=b.o.blk.cell 1;have F:=b.o.blk.frozen 1;have q:=O (b.o.dU n);have x:=O (v.o.jU b.o.sP);clear b v;go_wp2_with fail;clear c1 F;go_wp2_with fail;refine (C g tv iv _ _ _ _ _ _ B.o I q.o).mono ?_;rintro e N⟨rfl,M,L,h,m⟩;have r:=O h;have j:=O (x.o.trans m);clear h m q x;go_wp2_with fail;refine (dZ g tv l iv _ _ _ _ K _ _ _ _ [a,hd d] (r.o.alloc _) (ku _ [a,hd d]) (by omega)).mono ?_;rintro e P⟨rfl,J,h,m⟩;have t:=O h;have E:=O (j.o.dK.gy t.o m (lZ j.o.size));clear h m r j;go_wp2_with fail;go_ret;exact⟨rfl,_,_,t.o,E.o⟩
theorem sH (l:List Tok)(G:l.length≤1000)(m:Nat)(C:QC 195 l m (.lv .sum))(g:Nat)(tv iv:Value)(w:World)(s:RS)(xs:List NV)(nv:Value)(K:Nat)(a:Int)(d:List Int)(f:RS)(y:bH l m (.lv .sum) s.dU=some (d,f))(I:f.ns.length≤100000)(A:s.next l ≠ [])(h:QS g tv l iv w s xs nv) :
  Calls Tryz.prog 182 #[.pointer (some ⟨g,0,none⟩),.int .u8 K,.int .i64 a,.int .i64 6] w fun e w'=>e=.returned (.int .i64 (f.ns.length:Int))∧∃ c gB,QS g tv l iv w' (f.put ⟨K,[],0,[a,hd d],s.place l⟩).2 c gB∧Mw g w xs nv w' c gB:=by
 have i:=O h;have u:=O (Mw.refl (g:=g) (w:=w) (xs:=xs) (nv:=nv));have B:=O y;have D:=O (dM A).2;have H:=h.le;clear h y A;go_in
 go_wp2_with fail;refine (dh g tv l iv _ _ _ _ i.o G).mono ?_;rintro e w1⟨rfl,k⟩;have b:=O (i.o.below k);have v:=O (u.o.aU k);clear k i u;have n:=D.o;have c1:=b.o.blk.cell 1;have F:=b.o.blk.frozen 1;have q:=O (b.o.dU n);have x:=O (v.o.jU b.o.sP);clear b v;go_wp2_with fail;clear c1 F;go_wp2_with fail;refine (C g tv iv _ _ _ _ _ _ B.o I q.o).mono ?_;rintro e N⟨rfl,M,L,h,m⟩;have r:=O h;have j:=O (x.o.trans m);clear h m q x;go_wp2_with fail;refine (dZ g tv l iv _ _ _ _ K _ _ _ _ [a,hd d] (r.o.alloc _) (ku _ [a,hd d]) (by omega)).mono ?_;rintro e P⟨rfl,J,h,m⟩;have t:=O h;have E:=O (j.o.dK.gy t.o m (lZ j.o.size));clear h m r j;go_wp2_with fail;go_ret;exact⟨rfl,_,_,t.o,E.o⟩
theorem MQ (l:List Tok)(G:l.length≤1000)(m:Nat)(C:QC 196 l m (.lv .term))(g:Nat)(tv iv:Value)(w:World)(s:RS)(xs:List NV)(nv:Value)(K:Nat)(a:Int)(d:List Int)(f:RS)(y:bH l m (.lv .term) s.dU=some (d,f))(I:f.ns.length≤100000)(A:s.next l ≠ [])(h:QS g tv l iv w s xs nv) :
  Calls Tryz.prog 182 #[.pointer (some ⟨g,0,none⟩),.int .u8 K,.int .i64 a,.int .i64 7] w fun e w'=>e=.returned (.int .i64 (f.ns.length:Int))∧∃ c gB,QS g tv l iv w' (f.put ⟨K,[],0,[a,hd d],s.place l⟩).2 c gB∧Mw g w xs nv w' c gB:=by
 have i:=O h;have u:=O (Mw.refl (g:=g) (w:=w) (xs:=xs) (nv:=nv));have B:=O y;have D:=O (dM A).2;have H:=h.le;clear h y A;go_in
 go_wp2_with fail;refine (dh g tv l iv _ _ _ _ i.o G).mono ?_;rintro e w1⟨rfl,k⟩;have b:=O (i.o.below k);have v:=O (u.o.aU k);clear k i u;have n:=D.o;have c1:=b.o.blk.cell 1;have F:=b.o.blk.frozen 1;have q:=O (b.o.dU n);have x:=O (v.o.jU b.o.sP);clear b v;go_wp2_with fail;clear c1 F;go_wp2_with fail;refine (C g tv iv _ _ _ _ _ _ B.o I q.o).mono ?_;rintro e N⟨rfl,M,L,h,m⟩;have r:=O h;have j:=O (x.o.trans m);clear h m q x;go_wp2_with fail;refine (dZ g tv l iv _ _ _ _ K _ _ _ _ [a,hd d] (r.o.alloc _) (ku _ [a,hd d]) (by omega)).mono ?_;rintro e P⟨rfl,J,h,m⟩;have t:=O h;have E:=O (j.o.dK.gy t.o m (lZ j.o.size));clear h m r j;go_wp2_with fail;go_ret;exact⟨rfl,_,_,t.o,E.o⟩
theorem AO (l:List Tok)(G:l.length≤1000)(m:Nat)(C:QC 197 l m (.lv .unary))(g:Nat)(tv iv:Value)(w:World)(s:RS)(xs:List NV)(nv:Value)(K:Nat)(a:Int)(d:List Int)(f:RS)(y:bH l m (.lv .unary) s.dU=some (d,f))(I:f.ns.length≤100000)(A:s.next l ≠ [])(h:QS g tv l iv w s xs nv) :
  Calls Tryz.prog 182 #[.pointer (some ⟨g,0,none⟩),.int .u8 K,.int .i64 a,.int .i64 8] w fun e w'=>e=.returned (.int .i64 (f.ns.length:Int))∧∃ c gB,QS g tv l iv w' (f.put ⟨K,[],0,[a,hd d],s.place l⟩).2 c gB∧Mw g w xs nv w' c gB:=by
 have i:=O h;have u:=O (Mw.refl (g:=g) (w:=w) (xs:=xs) (nv:=nv));have B:=O y;have D:=O (dM A).2;have H:=h.le;clear h y A;go_in
 go_wp2_with fail;refine (dh g tv l iv _ _ _ _ i.o G).mono ?_;rintro e w1⟨rfl,k⟩;have b:=O (i.o.below k);have v:=O (u.o.aU k);clear k i u;have n:=D.o;have c1:=b.o.blk.cell 1;have F:=b.o.blk.frozen 1;have q:=O (b.o.dU n);have x:=O (v.o.jU b.o.sP);clear b v;go_wp2_with fail;clear c1 F;go_wp2_with fail;refine (C g tv iv _ _ _ _ _ _ B.o I q.o).mono ?_;rintro e N⟨rfl,M,L,h,m⟩;have r:=O h;have j:=O (x.o.trans m);clear h m q x;go_wp2_with fail;refine (dZ g tv l iv _ _ _ _ K _ _ _ _ [a,hd d] (r.o.alloc _) (ku _ [a,hd d]) (by omega)).mono ?_;rintro e P⟨rfl,J,h,m⟩;have t:=O h;have E:=O (j.o.dK.gy t.o m (lZ j.o.size));clear h m r j;go_wp2_with fail;go_ret;exact⟨rfl,_,_,t.o,E.o⟩
end
