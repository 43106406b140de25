/-
  A part of the proof.
-/
import Derived.Laws.EntriesVeiled
import Derived.Test.YtajfdjikimiapaaGreatDoorS13
set_option linter.all false
set_option maxRecDepth 100000
set_option maxHeartbeats 4000000
namespace Go.Proofs.YtajfdjikimiapaaGreatDoor
section
open Go.RowKit Mist
open Go.WideShapes Go.Maps
def Dr:Lit→Bool
 | .int .i64 _=>true
 | _=>false
def j5 (D:DataW Unit)(P:Int→Bool):Prop:=∃ es,D=.map es∧(es.any fun p=>!Dr p.1)=false∧∀ j:Int,Maps.has D (.int .i64 j)=P j
theorem j5.empty:j5 (.map []) (fun _=>false):=⟨[],rfl,rfl,fun _=>rfl⟩
theorem j5.imp {D:DataW Unit}{P Q:Int→Bool}(h:j5 D P)(e:∀ j,P j=Q j):j5 D Q:=by
 obtain⟨a,rfl,h1,h2⟩:=h;exact⟨a,rfl,h1,fun j=>(h2 j).trans (e j)⟩
theorem kT {a:Type}{f g:a→Bool}:∀ l:List a,l.any f=false→(l.filter g).any f=false
 | [],_=>rfl
 | y :: r,h=>by
  rw [List.any_cons] at h
  have h1:f y=false:=by cases b:f y <;> simp_all
  have h2:r.any f=false:=by cases b:r.any f <;> simp_all
  rw [List.filter_cons];split
  ·rw [List.any_cons,h1,kT r h2];rfl
  ·exact kT r h2
theorem j5.put {D:DataW Unit}{P:Int→Bool}(h:j5 D P)(k:Int)(d:DataW Unit):j5 (D.put (.int .i64 k) d) (fun j=>P j || j == k):=by
 obtain⟨b,rfl,h1,h2⟩:=h
 refine⟨DataW.insert (.int .i64 k,d) (b.filter fun p=>!p.1.sameKey (.int .i64 k)),rfl,?_,fun j=>?_⟩
 ·rw [any_insert,kT b h1];rfl
 ·by_cases e:j=k
  ·subst e;rw [has_put_same ⟨_,rfl⟩ (by trivial)];simp
  ·rw [has_put_other (by intro a;injection a with _ a;exact e a),h2 j];simp [e]
theorem j5.del {D:DataW Unit}{P:Int→Bool}(h:j5 D P)(k:Int):j5 (D.del (.int .i64 k)) (fun j=>P j && !(j == k)):=by
 obtain⟨b,rfl,h1,h2⟩:=h
 refine⟨b.filter fun p=>!p.1.sameKey (.int .i64 k),rfl,kT b h1,fun j=>?_⟩
 by_cases e:j=k
 ·subst e;rw [has_del_same];simp
 ·rw [has_del_other (by intro a;injection a with _ a;exact e a),h2 j];simp [e]
theorem j5.zero {D:DataW Unit}{P:Int→Bool}(h:j5 D P):Maps.size D=0↔∀ j,P j=false:=by
 obtain⟨e,rfl,h1,h2⟩:=h;constructor
 ·intro h0 j
  have:e=[]:=List.eq_nil_of_length_eq_zero h0
  subst this;rw [← h2 j];rfl
 ·intro h0
  cases e with
  | nil=>rfl
  | cons p r =>
   exfalso
   rw [List.any_cons] at h1
   have b:Dr p.1=true:=by cases f:Dr p.1 <;> simp_all
   obtain⟨l,d⟩:=p;simp only at b
   cases l with
   | int q a =>
    cases q <;> simp [Dr] at b
    have:=h2 a
    rw [h0 a,has_eq] at this
    simp [WideAt.sameKey_self (a:=Lit.int .i64 a) (by trivial)] at this
   | _=>simp [Dr] at b
def Bu (T:Tr)(k:Nat)(j:Int):Bool:=decide (0≤j∧j < (k:Int)) && ((nd T j.toNat).kind == 1 && decide ((nd T j.toNat).n < 0))
theorem zM {T:Tr}{k:Nat}(b:Bool)(a:((nd T k).kind == 1 && decide ((nd T k).n < 0))=b)(j:Int):Bu T (k+1) j=(Bu T k j || (b && j == (k:Int))):=by
 unfold Bu;by_cases e:j=(k:Int)
 ·subst e;rw [aiC,a];have h1:decide (0≤(k:Int)∧(k:Int) < ((k+1:Nat):Int))=true:=aiG (by omega);have h2:decide (0≤(k:Int)∧(k:Int) < (k:Int))=false:=aiH (by omega);rw [h1,h2];simp
 ·have h1:decide (0≤j∧j < ((k+1:Nat):Int))=decide (0≤j∧j < (k:Int)):=by
   congr 1;apply propext;omega
  rw [h1];simp [e]
def wU (T:Tr)(l:List Int)(j:Int):Bool:=l.any fun c=>(nd T c.toNat).kind == 40 && (nd T c.toNat).kids.contains j
theorem FB (T:Tr)(l:List Int)(c j:Int):wU T (l ++ [c]) j=(wU T l j || ((nd T c.toNat).kind == 40 && (nd T c.toNat).kids.contains j)):=by
 simp [wU]
theorem OV (T:Tr):Mist.signed T=true↔∀ j,(Bu T T.nodes.length j && !wU T T.items j)=false:=by
 unfold Mist.signed;rw [aiD];constructor
 ·intro h j;by_cases a:0≤j∧j < (T.nodes.length:Int)
  ·have:=h j.toNat (List.mem_range.2 (by omega))
   have e:((j.toNat:Nat):Int)=j:=by omega
   rw [e] at this
   unfold Bu wU
   revert this
   generalize ((nd T j.toNat).kind == 1 && decide ((nd T j.toNat).n < 0))=x
   generalize (T.items.any fun c=>(nd T c.toNat).kind == 40 && (nd T c.toNat).kids.contains j)=y
   intro this
   cases x <;> cases y <;> simp_all
  ·unfold Bu;rw [aiH a];simp
 ·intro h i hi;have hi:=List.mem_range.1 hi
  have:=h (i:Int)
  unfold Bu wU at this
  rw [aiG (by omega),aiC] at this
  revert this
  generalize ((nd T i).kind == 1 && decide ((nd T i).n < 0))=x
  generalize (T.items.any fun c=>(nd T c.toNat).kind == 40 && (nd T c.toNat).kids.contains (i:Int))=y
  intro this
  cases x <;> cases y <;> simp_all
theorem Ql:Keyed Tryz.prog 3:=int_keyed Tryz.underlying3
theorem wf_i64 {j:Int}(h:j6≤j∧j≤gL):(Lit.int .i64 j).wf=true:=WalkArith.wf_i64 (by unfold j6 gL at h;omega)
theorem OU (A B:Option Addr)(c d:Nat)(xs:List NV)(its:List Int)(w:World)(hT:lJ w A B xs its)(hR:ED (aj xs))(hn:xs.length≤100000)(hm:its.length≤1000000)(hI:∀ q ∈ its,0≤q∧q < (xs.length:Int)) :
  Calls Tryz.prog 119 #[.agg #[.slice A xs.length c,.slice B its.length d]] w fun e w'=>e=.returned (.bool (Mist.signed ⟨aj xs,its⟩))∧Below w.heap.size w w':=by
 obtain⟨n,K⟩:∃ n,n=xs.length:=⟨_,rfl⟩;obtain⟨m,P⟩:∃ m,m=its.length:=⟨_,rfl⟩;rw [← K] at hn hI ⊢
 rw [← P] at hm ⊢
 obtain⟨T,nU⟩:∃ T:Tr,T=⟨aj xs,its⟩:=⟨_,rfl⟩;rw [← nU];have Jm:=O (show T.nodes.length=n by rw [nU,K];exact bW xs);have HTI:=O (show T.items=its by rw [nU]);have EA:=O nU;clear nU;have pU:=O K;clear K;have Ep:=O P;clear P;have HT:=O hT;clear hT;have HII:=O hI;clear hI;have HRR:=O hR;clear hR;have hmk:=@run_makeMap Tryz.prog;go_in
 go_wp2_with fail;have gN:=O (aF (aF (Below.refl w.heap.size w) (aiv _) (o:=.cells #[.slice A n c,.slice B m d] 25)) (by simp) (o:=.map #[] 0));have W:=O ((aZ.new w 25 #[.slice A n c,.slice B m d]).alloc (.map #[] 0))
 have V:=O (by
  have h9:=World.ownsMap_made (w.alloc (.cells #[.slice A n c,.slice B m d] 25)) Tryz.prog 3 (plainElem (H:=Unit) Tryz.prog 4);rw [show (w.alloc (.cells #[.slice A n c,.slice B m d] 25)).heap.size=w.heap.size+1 by simp] at h9
  exact h9)
 clear hmk;go_loopw [14] (fun i wr=>∃ (k:Nat) (D:DataW Unit),k≤n∧i=.int .i64 k∧Hid (Below w.heap.size w wr)∧Hid (aZ wr w.heap.size 25 #[.slice A n c,.slice B m d])∧wr.ownsMap Tryz.prog 3 (plainElem Tryz.prog 4) (w.heap.size+1) k D∧Hid (j5 D (Bu T k))) (fun i _=>n - (intOf i).toNat)
 case atStart=>exact⟨0,.map [],aix _,rfl,gN,W,V.o,O (j5.empty.imp (fun j=>by unfold Bu;rw [aiH (by omega)];rfl))⟩
 case round =>
  clear gN W V;obtain⟨wo,rfl⟩:∃ wo:World,wo=wr:=⟨_,rfl⟩;obtain⟨k,D,hk,rfl,f,r,g,F⟩:=hrel;have a:=O g;clear g;have t0:=r.o.cell 0;have t1:=r.o.cell 1;have htl:=r.o.lt;by_cases N:k < n
  ·obtain⟨b,o,rfl,l⟩:=HT.o.nodes (by rw [← pU.o];omega);obtain⟨x,y⟩:∃ x,xs[k]? = some x:=iG (by rw [← pU.o];exact N);have S:=O (show nd T k=x.1 by rw [EA.o];exact aY its y);have c0:=(f.o.cell (p:=⟨b,o+k * 5,none⟩) l.lt).trans (l.c0 k x y);have c1:=(f.o.cell (p:=⟨b,o+k * 5+1,none⟩) l.lt).trans (l.c1 k x y);have c2:=(f.o.cell (p:=⟨b,o+k * 5+2,none⟩) l.lt).trans (l.c2 k x y);have c3:=(f.o.cell (p:=⟨b,o+k * 5+3,none⟩) l.lt).trans (l.c3 k x y);have c4:=(f.o.cell (p:=⟨b,o+k * 5+4,none⟩) l.lt).trans (l.c4 k x y);obtain⟨Ak,ck,I,_,_⟩:=l.kid y;rw [I] at c3
   clear l y I;have i1:(0:Int)≤(k:Int):=by omega
   have i2:(k:Int) < (n:Int):=by omega
   have i3:decide (k < n)=true:=aiG N;have G:keyOf Tryz.prog 3 (.int .i64 (k:Int))=some (.int .i64 (k:Int)):=keyOf_int_mk Tryz.underlying3 (wf_i64 (by unfold j6 gL;omega));by_cases h1:x.1.kind=1
   ·have e1:((x.1.kind:Int) == 1)=true:=by rw [h1];rfl
    by_cases h2:x.1.n < 0
    ·have e2:decide (x.1.n < 0)=true:=aiG h2;have X:=O (zM (T:=T) (k:=k) true (by rw [S.o];simp [h1,h2]));clear h1 h2
     go_wp2_with (at_mapUpdate
                  refine wpList_mapUpdate_own _ rfl _ _ _ 176 rfl 3 4 Ql Tryz.underlying176 _ (w.heap.size+1) k D rfl (a.o.alloc _) (by unfold maxLen;omega) _ _ _ rfl rfl G _ [] (plainElem_bool Tryz.underlying4 true) ?_;intro w1 u C)
     refine⟨⟨k+1,_,by omega,by go_num,O ?_,O ?_,u,O ?_⟩,by simp [intOf];omega⟩
     ·exact (aF f.o f.o.size).grown C (by simp;omega) (fun b Y=>by injection Y with Y;omega)
     ·exact (r.o.alloc _).grown C (by simp)
     ·exact (F.o.put (k:Int) _).imp (fun j=>by rw [X.o j];simp)
    ·have e2:decide (x.1.n < 0)=false:=aiH h2;have X:=O (zM (T:=T) (k:=k) false (by rw [S.o];simp [h2]));clear h1 h2;go_wp2_with fail;exact⟨⟨k+1,D,by omega,by go_num,O (aF f.o f.o.size),O (r.o.alloc _),(a.o.alloc _).mono (by omega),O (F.o.imp (fun j=>by rw [X.o j];simp))⟩,by simp [intOf];omega⟩
   ·have e1:((x.1.kind:Int) == 1)=false:=by rw [air];omega
    have X:=O (zM (T:=T) (k:=k) false (by rw [S.o];simp [h1]));clear h1;go_wp2_with fail;exact⟨⟨k+1,D,by omega,by go_num,O (aF f.o f.o.size),O (r.o.alloc _),(a.o.alloc _).mono (by omega),O (F.o.imp (fun j=>by rw [X.o j];simp))⟩,by simp [intOf];omega⟩
  ·obtain rfl:k=n:=by omega
   have i3:decide (k < k)=false:=aiH N;go_wp2_with fail;go_loopw [33] (fun i wr=>∃ (h:Nat) (D:DataW Unit),h≤m∧i=.int .i64 h∧Hid (Below w.heap.size w wr)∧Hid (aZ wr w.heap.size 25 #[.slice A k c,.slice B m d])∧wr.ownsMap Tryz.prog 3 (plainElem Tryz.prog 4) (w.heap.size+1) k D∧Hid (j5 D (fun j=>Bu T k j && !wU T (its.take h) j))) (fun i _=>m - (intOf i).toNat)
   case atStart=>exact⟨0,D,aix _,rfl,f,r,a.o,O (F.o.imp (fun j=>by simp [wU]))⟩
   case round =>
    clear f r a F;obtain⟨wp,rfl⟩:∃ wp:World,wp=wr:=⟨_,rfl⟩;obtain⟨h,D2,hj,rfl,f,r,g,F⟩:=hrel;have a:=O g;clear g;have t0:=r.o.cell 0;have t1:=r.o.cell 1;have htl:=r.o.lt;by_cases M:h < m
    ·obtain⟨q,hq⟩:∃ q,its[h]? = some q:=⟨_,aip (by rw [← Ep.o];exact M)⟩;have hqb:=HII.o q (aiy hq);obtain⟨qn,rfl⟩:∃ qn:Nat,q=(qn:Int):=⟨q.toNat,by omega⟩;obtain⟨bi,oi,rfl,hbi,Z⟩:=HT.o.items.ex (by rw [← Ep.o];omega);have cj:=(f.o.cell (p:=⟨bi,oi+h,none⟩) hbi).trans (Z h qn hq);have U:=O (show its.take (h+1)=its.take h ++ [(qn:Int)] by rw [List.take_add_one,hq];rfl);clear Z hq;obtain⟨b,o,rfl,l⟩:=HT.o.nodes (by rw [← pU.o];omega);obtain⟨x,y⟩:∃ x,xs[qn]? = some x:=iG (by rw [← pU.o];omega);have S:=O (show nd T qn=x.1 by rw [EA.o];exact aY its y);have c0:=(f.o.cell (p:=⟨b,o+qn * 5,none⟩) l.lt).trans (l.c0 qn x y);have c3:=(f.o.cell (p:=⟨b,o+qn * 5+3,none⟩) l.lt).trans (l.c3 qn x y);obtain⟨Ak,ck,I,hxl,hxk⟩:=l.kid y;have HKR:=O (HRR.o x.1 (List.mem_map_of_mem (aiy y)));rw [I] at c3
     have BG:=O hxk;clear l y I hxk;obtain⟨L,Q⟩:∃ L,L=x.1.kids.length:=⟨_,rfl⟩;rw [← Q] at c3 hxl
     have gW:=O Q;clear Q;have i1:(0:Int)≤(qn:Int):=by omega
     have i2:(qn:Int) < (k:Int):=by omega
     have j0:(0:Int)≤(h:Int):=by omega
     have j1:(h:Int) < (m:Int):=by omega
     have j2:decide (h < m)=true:=aiG M;by_cases rG:x.1.kind=40
     ·have e1:((x.1.kind:Int) != 40)=false:=by rw [rG];rfl
      have Gm:=O (show ∀ j,wU T (its.take (h+1)) j=(wU T (its.take h) j || x.1.kids.contains j) from fun j=>by
       rw [U.o,FB,aiC,S.o,rG];simp)
      clear rG;go_wp2_with fail;go_loopw [51] (fun i wr=>∃ (t:Nat) (D:DataW Unit),t≤L∧i=.int .i64 t∧Hid (Below w.heap.size w wr)∧Hid (aZ wr w.heap.size 25 #[.slice (some ⟨b,o,none⟩) k c,.slice (some ⟨bi,oi,none⟩) m d])∧wr.ownsMap Tryz.prog 3 (plainElem Tryz.prog 4) (w.heap.size+1) k D∧Hid (j5 D (fun j=>(Bu T k j && !wU T (its.take h) j) && !(x.1.kids.take t).contains j))) (fun i _=>L - (intOf i).toNat)
      case atStart=>exact⟨0,D2,aix _,rfl,f,r,a.o,O (F.o.imp (fun j=>by simp))⟩
      case round =>
       clear f r a F;obtain⟨wq,rfl⟩:∃ wq:World,wq=wr:=⟨_,rfl⟩;obtain⟨t,D3,hz,rfl,f,r,g,F⟩:=hrel;have a:=O g;clear g;by_cases R:t < L
       ·obtain⟨kq,J⟩:∃ kq,x.1.kids[t]? = some kq:=⟨_,aip (by rw [← gW.o];exact R)⟩;obtain⟨bk,ok,rfl,hbk,hck⟩:=BG.o.ex (by rw [← gW.o];omega);have cz:=(f.o.cell (p:=⟨bk,ok+t,none⟩) hbk).trans (hck t kq J);have HZN:=O (show x.1.kids.take (t+1)=x.1.kids.take t ++ [kq] by rw [List.take_add_one,J];rfl);have G:keyOf Tryz.prog 3 (.int .i64 kq)=some (.int .i64 kq):=keyOf_int_mk Tryz.underlying3 (wf_i64 (HKR.o.kids kq (aiy J)));clear hck J;have z0:(0:Int)≤(t:Int):=by omega
        have z1:(t:Int) < (L:Int):=by omega
        have z2:decide (t < L)=true:=aiG R
        go_wp2_with (at_delete
                     refine wpList_delete_own _ rfl _ _ 176 3 rfl 4 Ql Tryz.underlying176 _ (w.heap.size+1) k D3 rfl a.o _ _ rfl G ?_;intro w1 u E)
        refine⟨⟨t+1,_,by omega,by go_num,O ?_,O ?_,u,O ?_⟩,by simp [intOf];omega⟩
        ·exact f.o.grown E.grown f.o.size (fun b Y=>by injection Y with Y;omega)
        ·exact r.o.grown E.grown (by simp)
        ·refine (F.o.del kq).imp (fun j=>?_);rw [HZN.o];have h9:(x.1.kids.take t ++ [kq]).contains j=((x.1.kids.take t).contains j || j == kq):=by rw [aiu];simp
         rw [h9,Bool.not_or,Bool.and_assoc]
       ·have HKE:=O (show j5 D3 (fun j=>Bu T k j && !wU T (its.take (h+1)) j) from F.o.imp (fun j=>by
         rw [show x.1.kids.take t=x.1.kids from aiz (by rw [← gW.o];omega),Gm.o j,Bool.not_or,Bool.and_assoc]))
        have z2:decide (t < L)=false:=aiH R;go_wp2_with fail;exact⟨⟨h+1,D3,by omega,by go_num,f,r,a.o,HKE⟩,by simp [intOf];omega⟩
     ·have e1:((x.1.kind:Int) != 40)=true:=by rw [bne_iff_ne];omega
      have Gm:=O (show ∀ j,wU T (its.take (h+1)) j=wU T (its.take h) j from fun j=>by
       rw [U.o,FB,aiC,S.o];simp [rG])
      clear rG;go_wp2_with fail;exact⟨⟨h+1,D2,by omega,by go_num,f,r,a.o,O (F.o.imp (fun j=>by rw [Gm.o j]))⟩,by simp [intOf];omega⟩
    ·have j2:decide (h < m)=false:=aiH M
     have HSG:=O (show Mist.signed T=decide (Maps.size D2=0) by
      have h9:=F.o;rw [aiz (by rw [← Ep.o];omega),← HTI.o] at h9
      rw [aiu,OV,decide_eq_true_eq,h9.zero,Jm.o])
     go_wp2_with (at_len
                  refine wpList_len_own _ rfl _ 176 rfl 3 4 Tryz.underlying176 _ (w.heap.size+1) k D2 rfl a.o ?_)
     go_ret
     refine⟨bD ?_,f.o⟩
     rw [HSG.o,aiu];simp
end
section
open Go.RowKit Mist
attribute [local go_sem] au aN aV aM aG
theorem vM (f g h i:Value)(b:Option Addr)(a j:Nat)(l:a≤1000000)(w:World):Calls Tryz.prog 150 #[.agg #[f,g,h,.slice b a j,i]] w fun e k=>e=.returned (.int .i64 ((a:Int) - 2))∧Below w.heap.size w k:=by
 go_in
 go_wp2;go_ret;exact⟨rfl,aF (Below.refl _ _) (aiv _)⟩
def ow (T:Tr)(x:Nd):Prop:=x.kind=40→∃ k0 k1:Nat,x.kids=[(k0:Int),(k1:Int)]∧k0 < T.nodes.length∧k1 < T.nodes.length∧(-9999≤(nd T k0).n∧(nd T k0).n≤9999)∧(-9999≤(nd T k1).n∧(nd T k1).n≤9999)
theorem YS (T:Tr)(A:Option Addr)(n c:Nat)(B:Option Addr)(m d:Nat)(x:Nd)(g:Option Addr)(f h:Nat)(b:f=x.kids.length)(C:f≤1000000)(w:World)(a:x.kind=41) :
  Calls Tryz.prog 102 #[.agg #[.slice A n c,.slice B m d],.agg #[.int .u8 x.kind,.string (aU x.text),.int .i64 x.n,.slice g f h,.int .i64 x.at_]] w fun e y=>e=.returned (.bool (Mist.sized T x))∧Below w.heap.size w y:=by
 have q:((x.kind:Int) == 40)=false:=by rw [a];rfl
 have r:((x.kind:Int) == 41)=true:=by rw [a];rfl
 have t:((x.kind:Int) == 42)=false:=by rw [a];rfl
 have l:((x.kind:Int) == 33)=false:=by rw [a];rfl
 have k:((x.kind:Int) == 26)=false:=by rw [a];rfl
 have u:((x.kind:Int) == 46)=false:=by rw [a];rfl
 have j:=O (show Mist.sized T x=decide (f≤6) by simp [Mist.sized,a,b]);clear a b;have i:=O (aF (aF (Below.refl w.heap.size w) (aiv _) (o:=.cells #[.slice A n c,.slice B m d] 25)) (by simp) (o:=.cells #[.int .u8 x.kind,.string (aU x.text),.int .i64 x.n,.slice g f h,.int .i64 x.at_] 39));go_in
 go_wp2;go_ret;exact⟨bD (by rw [j.o];rw [aiu];simp;omega),i.o⟩
theorem YP (T:Tr)(A:Option Addr)(n c:Nat)(B:Option Addr)(m d:Nat)(x:Nd)(g:Option Addr)(f h:Nat)(b:f=x.kids.length)(C:f≤1000000)(w:World)(a:x.kind=26) :
  Calls Tryz.prog 102 #[.agg #[.slice A n c,.slice B m d],.agg #[.int .u8 x.kind,.string (aU x.text),.int .i64 x.n,.slice g f h,.int .i64 x.at_]] w fun e y=>e=.returned (.bool (Mist.sized T x))∧Below w.heap.size w y:=by
 have q:((x.kind:Int) == 40)=false:=by rw [a];rfl
 have r:((x.kind:Int) == 41)=false:=by rw [a];rfl
 have t:((x.kind:Int) == 42)=false:=by rw [a];rfl
 have l:((x.kind:Int) == 33)=false:=by rw [a];rfl
 have k:((x.kind:Int) == 26)=true:=by rw [a];rfl
 have u:((x.kind:Int) == 46)=false:=by rw [a];rfl
 have j:=O (show Mist.sized T x=decide (f≤6) by simp [Mist.sized,a,b]);clear a b;have i:=O (aF (aF (Below.refl w.heap.size w) (aiv _) (o:=.cells #[.slice A n c,.slice B m d] 25)) (by simp) (o:=.cells #[.int .u8 x.kind,.string (aU x.text),.int .i64 x.n,.slice g f h,.int .i64 x.at_] 39));go_in
 go_wp2;go_ret;exact⟨bD (by rw [j.o];rw [aiu];simp;omega),i.o⟩
theorem YQ (T:Tr)(A:Option Addr)(n c:Nat)(B:Option Addr)(m d:Nat)(x:Nd)(g:Option Addr)(f h:Nat)(b:f=x.kids.length)(C:f≤1000000)(w:World)(a:x.kind=33) :
  Calls Tryz.prog 102 #[.agg #[.slice A n c,.slice B m d],.agg #[.int .u8 x.kind,.string (aU x.text),.int .i64 x.n,.slice g f h,.int .i64 x.at_]] w fun e y=>e=.returned (.bool (Mist.sized T x))∧Below w.heap.size w y:=by
 have q:((x.kind:Int) == 40)=false:=by rw [a];rfl
 have r:((x.kind:Int) == 41)=false:=by rw [a];rfl
 have t:((x.kind:Int) == 42)=false:=by rw [a];rfl
 have l:((x.kind:Int) == 33)=true:=by rw [a];rfl
 have k:((x.kind:Int) == 26)=false:=by rw [a];rfl
 have u:((x.kind:Int) == 46)=false:=by rw [a];rfl
 have j:=O (show Mist.sized T x=Mist.within x.n 1 6 by simp [Mist.sized,a,b]);clear a b;have i:=O (aF (aF (Below.refl w.heap.size w) (aiv _) (o:=.cells #[.slice A n c,.slice B m d] 25)) (by simp) (o:=.cells #[.int .u8 x.kind,.string (aU x.text),.int .i64 x.n,.slice g f h,.int .i64 x.at_] 39));go_in
 go_wp2_with fail;refine (dJ x.n 1 6 _ rfl _).mono ?_;rintro e D⟨rfl,rfl⟩;go_wp2_with fail;go_ret;exact⟨bD j.o.symm,i.o⟩
theorem YU (T:Tr)(A:Option Addr)(n c:Nat)(B:Option Addr)(m d:Nat)(x:Nd)(h:Option Addr)(f k:Nat)(b:f=x.kids.length)(E:f≤1000000)(w:World)(a:x.kind=46) :
  Calls Tryz.prog 102 #[.agg #[.slice A n c,.slice B m d],.agg #[.int .u8 x.kind,.string (aU x.text),.int .i64 x.n,.slice h f k,.int .i64 x.at_]] w fun e D=>e=.returned (.bool (Mist.sized T x))∧Below w.heap.size w D:=by
 have t:((x.kind:Int) == 40)=false:=by rw [a];rfl
 have u:((x.kind:Int) == 41)=false:=by rw [a];rfl
 have y:((x.kind:Int) == 42)=false:=by rw [a];rfl
 have r:((x.kind:Int) == 33)=false:=by rw [a];rfl
 have q:((x.kind:Int) == 26)=false:=by rw [a];rfl
 have C:((x.kind:Int) == 46)=true:=by rw [a];rfl
 have j:=O (show Mist.sized T x=(!(x.n == 8) || decide (f≤4)) by simp [Mist.sized,a,b]);clear a b;have i:=O (aF (aF (Below.refl w.heap.size w) (aiv _) (o:=.cells #[.slice A n c,.slice B m d] 25)) (by simp) (o:=.cells #[.int .u8 x.kind,.string (aU x.text),.int .i64 x.n,.slice h f k,.int .i64 x.at_] 39));by_cases h8:x.n=8
 ·have l:(x.n != 8)=false:=by simp [h8]
  have g:=O (show (x.n == 8)=true by simpa using h8);clear h8;go_in
  go_wp2;go_ret;exact⟨bD (by rw [j.o,g.o];rw [aiu];simp;omega),i.o⟩
 ·have l:(x.n != 8)=true:=by simpa using h8
  have g:=O (show (x.n == 8)=false by simpa using h8);clear h8;go_in
  go_wp2;go_ret;exact⟨bD (by rw [j.o,g.o];rfl),i.o⟩
theorem YT (T:Tr)(A:Option Addr)(n c:Nat)(B:Option Addr)(m d:Nat)(x:Nd)(j:Option Addr)(a l:Nat)(q:a=x.kids.length)(D:a≤1000000)(w:World)(i:x.kind=42) :
  Calls Tryz.prog 102 #[.agg #[.slice A n c,.slice B m d],.agg #[.int .u8 x.kind,.string (aU x.text),.int .i64 x.n,.slice j a l,.int .i64 x.at_]] w fun e M=>e=.returned (.bool (Mist.sized T x))∧Below w.heap.size w M:=by
 have H:((x.kind:Int) == 40)=false:=by rw [i];rfl
 have I:((x.kind:Int) == 41)=false:=by rw [i];rfl
 have J:((x.kind:Int) == 42)=true:=by rw [i];rfl
 have G:((x.kind:Int) == 33)=false:=by rw [i];rfl
 have F:((x.kind:Int) == 26)=false:=by rw [i];rfl
 have K:((x.kind:Int) == 46)=false:=by rw [i];rfl
 have y:=O (show Mist.sized T x=(decide ((a:Int) - 2≤4) && decide (x.n≤8)) by simp [Mist.sized,i,q]);clear i q;have u:=O (aF (aF (Below.refl w.heap.size w) (aiv _) (o:=.cells #[.slice A n c,.slice B m d] 25)) (by simp) (o:=.cells #[.int .u8 x.kind,.string (aU x.text),.int .i64 x.n,.slice j a l,.int .i64 x.at_] 39));by_cases h6:(a:Int) - 2≤4
 ·have r:decide ((a:Int) - 2≤4)=true:=aiG h6;by_cases h8:x.n≤8
  ·have C:decide (x.n≤8)=true:=aiG h8;have f:=O (show Mist.sized T x=true by rw [y.o,r,C];rfl);go_in
   go_wp2_with fail;refine (vM _ _ _ _ j a l D _).mono ?_;rintro e t⟨rfl,g⟩;have E:=O (show aZ t (w.heap.size+1) 39 #[.int .u8 x.kind,.string (aU x.text),.int .i64 x.n,.slice j a l,.int .i64 x.at_] from aZ.below (by repeat (first|(with_reducible exact aZ.new _ _ _)|(refine (show ∀ {W:World} {cs:Array Value} {T:TypeId} {k:Nat},W.heap.size=k→aZ (W.alloc (.cells cs T)) k T cs from fun h=>by subst h;exact aZ.new _ _ _) (by simp)))) g (by simp));have L:=E.o.cell 2;have b:=O (u.o.trans (g.mono (by simp;omega)));clear g;go_wp2_with fail;go_ret;exact⟨bD f.o.symm,b.o⟩
  ·have C:decide (x.n≤8)=false:=aiH h8;have f:=O (show Mist.sized T x=false by rw [y.o,r,C];rfl);go_in
   go_wp2_with fail;refine (vM _ _ _ _ j a l D _).mono ?_;rintro e t⟨rfl,g⟩;have E:=O (show aZ t (w.heap.size+1) 39 #[.int .u8 x.kind,.string (aU x.text),.int .i64 x.n,.slice j a l,.int .i64 x.at_] from aZ.below (by repeat (first|(with_reducible exact aZ.new _ _ _)|(refine (show ∀ {W:World} {cs:Array Value} {T:TypeId} {k:Nat},W.heap.size=k→aZ (W.alloc (.cells cs T)) k T cs from fun h=>by subst h;exact aZ.new _ _ _) (by simp)))) g (by simp));have L:=E.o.cell 2;have b:=O (u.o.trans (g.mono (by simp;omega)));clear g;go_wp2_with fail;go_ret;exact⟨bD f.o.symm,b.o⟩
 ·have r:decide ((a:Int) - 2≤4)=false:=aiH h6;have f:=O (show Mist.sized T x=false by rw [y.o,r];rfl);go_in
  go_wp2_with fail;refine (vM _ _ _ _ j a l D _).mono ?_;rintro e t⟨rfl,g⟩;have b:=O (u.o.trans (g.mono (by simp;omega)));clear g;go_wp2_with fail;go_ret;exact⟨bD f.o.symm,b.o⟩
theorem Ld (T:Tr)(A:Option Addr)(n c:Nat)(B:Option Addr)(m d:Nat)(x:Nd)(f:Option Addr)(a k:Nat)(b:a=x.kids.length)(G:a≤1000000)(w:World)(l:¬ x.kind=40)(i:¬ x.kind=41)(g:¬ x.kind=42)(h:¬ x.kind=33)(j:¬ x.kind=26)(h46:¬ x.kind=46) :
  Calls Tryz.prog 102 #[.agg #[.slice A n c,.slice B m d],.agg #[.int .u8 x.kind,.string (aU x.text),.int .i64 x.n,.slice f a k,.int .i64 x.at_]] w fun e F=>e=.returned (.bool (Mist.sized T x))∧Below w.heap.size w F:=by
 have y:((x.kind:Int) == 40)=false:=by rw [air];omega
 have C:((x.kind:Int) == 41)=false:=by rw [air];omega
 have D:((x.kind:Int) == 42)=false:=by rw [air];omega
 have u:((x.kind:Int) == 33)=false:=by rw [air];omega
 have t:((x.kind:Int) == 26)=false:=by rw [air];omega
 have E:((x.kind:Int) == 46)=false:=by rw [air];omega
 have r:=O (show Mist.sized T x=true by simp [Mist.sized,l,i,g,h,j,h46]);clear l i g h j h46 b;have q:=O (aF (aF (Below.refl w.heap.size w) (aiv _) (o:=.cells #[.slice A n c,.slice B m d] 25)) (by simp) (o:=.cells #[.int .u8 x.kind,.string (aU x.text),.int .i64 x.n,.slice f a k,.int .i64 x.at_] 39));go_in
 go_wp2;go_ret;exact⟨bD r.o.symm,q.o⟩
theorem YR (xs:List NV)(its:List Int)(b o n c:Nat)(B:Option Addr)(m d:Nat)(x:Nd)(D:Option Addr)(C F:Nat)(w:World)(u:qG w b o xs)(hn:n=xs.length)(j:x.kind=40)(G:ow ⟨aj xs,its⟩ x)(r:C=x.kids.length)(H:IntsIn w D x.kids) :
  Calls Tryz.prog 102 #[.agg #[.slice (some ⟨b,o,none⟩) n c,.slice B m d],.agg #[.int .u8 x.kind,.string (aU x.text),.int .i64 x.n,.slice D C F,.int .i64 x.at_]] w fun e w'=>e=.returned (.bool (Mist.sized ⟨aj xs,its⟩ x))∧Below w.heap.size w w':=by
 obtain⟨k0,t,f,h0,h1,E,b1⟩:=G j;rw [bW,← hn] at h0 h1
 obtain⟨I,k⟩:=iG (xs:=xs) (i:=k0) (by omega);obtain⟨J,l⟩:=iG (xs:=xs) (i:=t) (by omega);rw [aY its k] at E
 rw [aY its l] at b1
 obtain⟨M,g⟩:∃ a,a=I.1.n:=⟨_,rfl⟩;obtain⟨N,h⟩:∃ a,a=J.1.n:=⟨_,rfl⟩;rw [← g] at E
 rw [← h] at b1
 have L:=O (show Mist.sized ⟨aj xs,its⟩ x=Mist.within (N - M+1) 1 12 by
  simp only [Mist.sized,j,if_true];rw [f];simp only [List.getD_cons_succ,List.getD_cons_zero,aiC];rw [aY its k,aY its l,g,h])
 have Q:=u.c2 k0 I k;have c1:=u.c2 t J l;rw [← g] at Q
 rw [← h] at c1
 obtain⟨P,ok,rfl,Y,q⟩:=H.ex (by rw [f];simp);have R:=q 0 k0 (by rw [f];rfl);have d1:=q 1 t (by rw [f];rfl);rw [Nat.add_zero] at R
 have y:C=2:=by rw [r,f];rfl
 subst y;have Z:=u.lt;have U:((x.kind:Int) == 40)=true:=by rw [j];rfl
 have V:((x.kind:Int) == 41)=false:=by rw [j];rfl
 have W:((x.kind:Int) == 42)=false:=by rw [j];rfl
 have T:((x.kind:Int) == 33)=false:=by rw [j];rfl
 have S:((x.kind:Int) == 26)=false:=by rw [j];rfl
 have X:((x.kind:Int) == 46)=false:=by rw [j];rfl
 clear j r q f k l g h u H hn G;have i0:(0:Int)≤(k0:Int):=by omega
 have i1:(k0:Int) < (n:Int):=by omega
 have j0:(0:Int)≤(t:Int):=by omega
 have j1:(t:Int) < (n:Int):=by omega
 have K:=O (aF (aF (Below.refl w.heap.size w) (aiv _) (o:=.cells #[.slice (some ⟨b,o,none⟩) n c,.slice B m d] 25)) (by simp) (o:=.cells #[.int .u8 x.kind,.string (aU x.text),.int .i64 x.n,.slice (some ⟨P,ok,none⟩) 2 F,.int .i64 x.at_] 39));go_in
 go_wp2_with fail;go_quiet (fail)
 go_wp2_with fail;refine (dJ _ 1 12 _ rfl _).mono ?_;rintro e w2⟨rfl,rfl⟩;go_wp2_with fail;go_ret;exact⟨bD L.o.symm,jJ K.o _⟩
theorem Uz (xs:List NV)(its:List Int)(A:Option Addr)(n c:Nat)(B:Option Addr)(m d:Nat)(x:Nd)(g:Option Addr)(f h:Nat)(w:World)(hT:lJ w A B xs its)(hn:n=xs.length)(t:ow ⟨aj xs,its⟩ x)(a:f=x.kids.length)(i:f≤1000000)(u:IntsIn w g x.kids) :
  Calls Tryz.prog 102 #[.agg #[.slice A n c,.slice B m d],.agg #[.int .u8 x.kind,.string (aU x.text),.int .i64 x.n,.slice g f h,.int .i64 x.at_]] w fun e C=>e=.returned (.bool (Mist.sized ⟨aj xs,its⟩ x))∧Below w.heap.size w C:=by
 by_cases j:x.kind=40
 ·obtain⟨k0,D,_,h0,_⟩:=t j;rw [bW] at h0
  obtain⟨b,o,rfl,y⟩:=hT.nodes (by omega);exact YR xs its b o n c B m d x g f h w y hn j t a u
 by_cases q:x.kind=41
 ·exact YS _ A n c B m d x g f h a i w q
 by_cases k:x.kind=42
 ·exact YT _ A n c B m d x g f h a i w k
 by_cases l:x.kind=33
 ·exact YQ _ A n c B m d x g f h a i w l
 by_cases r:x.kind=26
 ·exact YP _ A n c B m d x g f h a i w r
 by_cases h46:x.kind=46
 ·exact YU _ A n c B m d x g f h a i w h46
 exact Ld _ A n c B m d x g f h a i w j q k l r h46
def vG (p:Nd→Bool)(l:List Nd):Int :=
 match l.findIdx? p with
 | some i=>(i:Int)
 | none=>-1
theorem Nq {p:Nd→Bool}{l:List Nd}{k:Nat}{x:Nd}(h:(l.take k).all (fun y=>!p y)=true)(e:l[k]? = some x)(b:p x=true):vG p l=(k:Int):=by
 have:l.findIdx? p=some k:=by
  rw [List.findIdx?_eq_some_iff_getElem];obtain⟨a,rfl⟩:=aiq.1 e
  refine⟨a,b,fun j f=>?_⟩
  have:=aiD.1 h l[j] (by rw [List.mem_take_iff_getElem];exact⟨j,by omega,rfl⟩)
  simpa using this
 unfold vG;rw [this]
theorem JF {p:Nd→Bool}{l:List Nd}(h:l.all (fun y=>!p y)=true):vG p l=-1:=by
 have:l.findIdx? p=none:=by
  rw [List.findIdx?_eq_none_iff];intro x a
  have:=aiD.1 h x a
  simpa using this
 unfold vG;rw [this]
def outT (T:Tr):Int:=vG (fun x=>!Mist.sized T x) T.nodes
theorem Kz (T:Tr):decide (0≤outT T)=!(T.nodes.all (Mist.sized T)):=by
 unfold outT vG;rcases h:T.nodes.findIdx? (fun x=>!Mist.sized T x) with _ | i
 ·rw [List.findIdx?_eq_none_iff] at h
  have:T.nodes.all (Mist.sized T)=true:=by
   rw [aiD];intro x e;simpa using h x e
  rw [this];rfl
 ·rw [List.findIdx?_eq_some_iff_getElem] at h
  obtain⟨a,b,_⟩:=h
  have:T.nodes.all (Mist.sized T)=false:=by
   rw [List.all_eq_false];exact⟨_,List.getElem_mem a,by simpa using b⟩
  rw [this]
  show decide ((0:Int)≤(i:Int))=true
  exact aiG (by omega)
section
variable (xs:List NV) (its:List Int) (A:Option Addr) (n c:Nat) (B:Option Addr) (m d:Nat) (w0:World) (hT:lJ w0 A B xs its) (hn:n=xs.length) (hm:m=its.length)
include hT hn
theorem X_ (tb:Nat)(x:Nd)(g:Option Addr)(f i:Nat)(w:World)(a:Below w0.heap.size w0 w)(h:aZ w tb 25 #[.slice A n c,.slice B m d])(k:ow ⟨aj xs,its⟩ x)(b:f=x.kids.length)(r:f≤1000000)(l:IntsIn w0 g x.kids) :
  Calls Tryz.prog 101 #[.agg #[.int .u8 x.kind,.string (aU x.text),.int .i64 x.n,.slice g f i,.int .i64 x.at_],.pointer (some ⟨tb,0,none⟩)] w fun e u=>e=.returned (.bool (!Mist.sized ⟨aj xs,its⟩ x))∧Below w.heap.size w u:=by
 have j:=O (Uz xs its A n c B m d x g f i (w.alloc (.cells #[.int .u8 x.kind,.string (aU x.text),.int .i64 x.n,.slice g f i,.int .i64 x.at_] 39)) ((hT.below a).below (aF (Below.refl _ _) (aiv _))) hn k b r ((l.below a).below (aF (Below.refl _ _) (aiv _))));have y:=h.cell 0;have C:=h.cell 1;have t:=h.lt;obtain⟨T,q⟩:∃ T:Tr,T=⟨aj xs,its⟩:=⟨_,rfl⟩;rw [← q] at j ⊢
 clear hT k b l a h q hn;go_in
 go_wp2_with fail;refine j.o.mono ?_;rintro e D⟨rfl,a⟩;go_wp2_with fail;go_ret;exact⟨rfl,(aF (Below.refl _ _) (aiv _)).trans (a.mono (by simp))⟩
theorem Sw (hn6:n≤100000)(tb:Nat)(w:World)(D:Below w0.heap.size w0 w)(F:aZ w tb 25 #[.slice A n c,.slice B m d])(C:∀ x ∈ aj xs,ow ⟨aj xs,its⟩ x) :
  Calls Tryz.prog 100 #[.slice A n c,.func (.func 101) #[] #[.pointer (some ⟨tb,0,none⟩)]] w fun e w'=>e=.returned (.int .i64 (outT ⟨aj xs,its⟩))∧Below w.heap.size w w':=by
 have Z:=O (fun tb x H nk N w D F C P hl hI=>X_ xs its A n c B m d w0 hT hn tb x H nk N w D F C P hl hI);obtain⟨T,G⟩:∃ T:Tr,T=⟨aj xs,its⟩:=⟨_,rfl⟩;have W:=O (show T.nodes=aj xs by rw [G]);rw [← G];have X:=O G;clear G;have HT:=O hT;clear hT;have K:=O hn;clear hn;have Y:=O C;clear C;have S:=O D;clear D;have V:=O F;clear F;go_in
 go_wp2_with fail;go_loopw [8] (fun i wr=>∃ k:Nat,k≤n∧i=.int .i64 k∧Hid (((aj xs).take k).all (fun y=>!(!Mist.sized T y))=true)∧Hid (Below w.heap.size w wr)) (fun i _=>n - (intOf i).toNat)
 case atStart=>exact⟨0,aix _,rfl,O rfl,O (Below.refl _ _)⟩
 case round =>
  obtain⟨R,rfl⟩:∃ R:World,R=wr:=⟨_,rfl⟩;obtain⟨k,hk,rfl,I,l⟩:=hrel;by_cases q:k < n
  ·obtain⟨b,o,rfl,f⟩:=HT.o.nodes (by rw [← K.o];omega);obtain⟨x,h⟩:∃ x,xs[k]? = some x:=iG (by rw [← K.o];exact q);have a:=S.o.trans (l.o.mono S.o.size);have c0:=(a.cell (p:=⟨b,o+k * 5,none⟩) f.lt).trans (f.c0 k x h);have c1:=(a.cell (p:=⟨b,o+k * 5+1,none⟩) f.lt).trans (f.c1 k x h);have c2:=(a.cell (p:=⟨b,o+k * 5+2,none⟩) f.lt).trans (f.c2 k x h);have c3:=(a.cell (p:=⟨b,o+k * 5+3,none⟩) f.lt).trans (f.c3 k x h);have c4:=(a.cell (p:=⟨b,o+k * 5+4,none⟩) f.lt).trans (f.c4 k x h);obtain⟨H,N,t,Q,u⟩:=f.kid h;rw [t] at c3
   have j:x.1 ∈ aj xs:=List.mem_map_of_mem (aiy h);have M:=O (Z.o tb x.1 H _ N R a (V.o.below l.o V.o.lt) (Y.o x.1 j) rfl Q u);rw [← X.o] at M
   have U:=O (jd h);clear f h t a j u;have i1:(0:Int)≤(k:Int):=by omega
   have i2:(k:Int) < (n:Int):=by omega
   have i3:decide (k < n)=true:=aiG q;have HS:=O (show (aj xs).take (k+1)=(aj xs).take k ++ [x.1] by rw [List.take_add_one,U.o];rfl)
   cases E:Mist.sized T x.1
   ·have r:=O E;clear E
    have L:=O (show outT T=(k:Int) by
     unfold outT;rw [W.o];exact Nq I.o U.o (by rw [r.o];rfl))
    go_wp2_with fail;refine M.o.mono ?_;rintro e w2⟨rfl,g⟩;rw [r.o];go_wp2_with fail;go_ret;exact⟨by rw [L.o];rfl,l.o.trans (g.mono l.o.size)⟩
   ·have r:=O E;clear E;go_wp2_with fail;refine M.o.mono ?_;rintro e w2⟨rfl,g⟩;rw [r.o];have J:=O (l.o.trans (g.mono l.o.size));clear g;go_wp2_with fail;exact⟨⟨k+1,by omega,by go_num,O (by rw [HS.o,List.all_append,I.o];simp [r.o]),J⟩,by simp [intOf];omega⟩
  ·have L:=O (show outT T=-1 by
    have h9:=I.o;rw [aiz (by rw [bW,← K.o];omega)] at h9
    unfold outT;rw [W.o];exact JF h9)
   have i3:decide (k < n)=false:=aiH q;go_wp2_with fail;go_ret;exact⟨by rw [L.o];rfl,l.o⟩
end
theorem yj (xs:List NV)(its:List Int)(A:Option Addr)(c:Nat)(B:Option Addr)(m d:Nat)(w:World)(hT:lJ w A B xs its)(a:xs.length≤100000)(b:∀ x ∈ aj xs,ow ⟨aj xs,its⟩ x) :
  Calls Tryz.prog 51 #[.agg #[.slice A xs.length c,.slice B m d]] w fun e h=>e=.returned (.int .i64 (outT ⟨aj xs,its⟩))∧Below w.heap.size w h:=by
 have f:=O (Sw xs its A xs.length c B m d w hT rfl a w.heap.size (w.alloc (.cells #[.slice A xs.length c,.slice B m d] 25)) (aF (Below.refl _ _) (aiv _)) (aZ.new _ _ _) b);clear hT b;go_in
 go_wp2_with fail;refine f.o.mono ?_;rintro e i⟨rfl,g⟩;go_wp2_with fail;go_ret;exact⟨rfl,(aF (Below.refl _ _) (aiv _)).trans (g.mono (by simp))⟩
end
section
open Go.RowKit Mist
def m_ (n m:Nat):Bool:=decide (800 < n) || decide (60 < m)
theorem FM (A B:Option Addr)(n m c d:Nat)(w:World):Calls Tryz.prog 49 #[.agg #[.slice A n c,.slice B m d]] w fun e g=>e=.returned (.bool (m_ n m))∧Below w.heap.size w g:=by
 by_cases h1:800 < n
 ·have b:decide ((800:Int) < (n:Int))=true:=aiG (by omega);have a:=O (show m_ n m=true by simp [m_,h1]);go_in
  go_wp2;go_ret;exact⟨(by rw [a.o];rfl),aF (Below.refl _ _) (aiv _)⟩
 ·have b:decide ((800:Int) < (n:Int))=false:=aiH (by omega);by_cases h2:60 < m
  ·have f:decide ((60:Int) < (m:Int))=true:=aiG (by omega);have a:=O (show m_ n m=true by simp [m_,h2]);go_in
   go_wp2;go_ret;exact⟨(by rw [a.o];rfl),aF (Below.refl _ _) (aiv _)⟩
  ·have f:decide ((60:Int) < (m:Int))=false:=aiH (by omega);have a:=O (show m_ n m=false by simp [m_,h1,h2]);go_in
   go_wp2;go_ret;exact⟨(by rw [a.o];rfl),aF (Below.refl _ _) (aiv _)⟩
def iT (ns:List Nd):Int:=if ns.length=0 then 0 else Lib.maxOf ((gQ ns).map fun (d:Nat)=>(d:Int))
theorem JD (b o c m d:Nat)(B:Option Addr)(xs:List NV)(w:World)(h:yY w b o xs)(i:Wf (aj xs))(hn:xs.length≤100000)(h0:0 < xs.length) :
  Calls Tryz.prog 50 #[.agg #[.slice (some ⟨b,o,none⟩) xs.length c,.slice B m d]] w fun e x=>e=.returned (.int .i64 (iT (aj xs)))∧Below w.heap.size w x:=by
 have r:=O (Nk b o c m d B xs (w.alloc (.cells #[.slice (some ⟨b,o,none⟩) xs.length c,.slice B m d] 25)) (h.below ((Below.refl _ _).alloc (aiv _) _)) i hn);have t:=O (show iT (aj xs)=Lib.maxOf ((gQ (aj xs)).map fun (d:Nat)=>(d:Int)) by unfold iT;rw [bW,if_neg (by omega)]);have C:((xs.length:Int) == 0)=false:=by simp;intro e;subst e;simp at h0
 have f:=O (show (gQ (aj xs)).length=xs.length by unfold gQ;rw [wR,List.length_replicate,bW]);clear h i;go_in
 go_wp2_with fail;refine r.o.mono ?_;rintro e w1⟨g,rfl,y,k,l⟩;have q:=O k;clear k;have u:=O l;clear l;go_wp2_with fail
 refine (Tryz.slices_Max_int g 0 xs.length xs.length ((gQ (aj xs)).map fun (d:Nat)=>(d:Int)) w1 h0 (by rw [List.length_map,f.o];exact aiv _) (by omega) (fun j a=>by
  rw [List.length_map] at a
  rw [Nat.zero_add,q.o.cell j,qC _ j a];simp [ait,aip a])).mono ?_
 rintro e D⟨rfl,rfl⟩;go_wp2_with fail;go_ret
 refine⟨?_,(aF (Below.refl _ _) (aiv _)).trans (u.o.mono (by simp))⟩
 rw [t.o,aiz (by rw [List.length_map,f.o];exact aiv _)];rfl
end
