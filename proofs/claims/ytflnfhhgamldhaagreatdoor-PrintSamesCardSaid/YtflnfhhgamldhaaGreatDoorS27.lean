/-
  A part of the proof.
-/
import Derived.Laws.EntriesVeiled
import Derived.Test.YtflnfhhgamldhaaGreatDoorS16
set_option linter.all false
set_option maxRecDepth 100000
set_option maxHeartbeats 4000000
namespace Go.Proofs.YtflnfhhgamldhaaGreatDoor
section
open Go.RowKit Mist
open Go.WideShapes Go.Maps
def D5:Lit→Bool
 | .int .i64 _=>true
 | _=>false
def kW (D:DataW Unit)(P:Int→Bool):Prop:=∃ es,D=.map es∧(es.any fun p=>!D5 p.1)=false∧∀ j:Int,Maps.has D (.int .i64 j)=P j
theorem kW.empty:kW (.map []) (fun _=>false):=⟨[],rfl,rfl,fun _=>rfl⟩
theorem kW.imp {D:DataW Unit}{P Q:Int→Bool}(h:kW D P)(e:∀ j,P j=Q j):kW D Q:=by
 obtain⟨a,rfl,h1,h2⟩:=h;exact⟨a,rfl,h1,fun j=>(h2 j).trans (e j)⟩
theorem l8 {a:Type}{f g:a→Bool}:∀ l:List a,l.any f=false→(l.filter g).any f=false
 | [],_=>rfl
 | y :: r,h=>by
  rw [List.any_cons] at h
  have h1:f y=false:=by cases b:f y <;> simp_all
  have h2:r.any f=false:=by cases b:r.any f <;> simp_all
  rw [List.filter_cons];split
  ·rw [List.any_cons,h1,l8 r h2];rfl
  ·exact l8 r h2
theorem kW.put {D:DataW Unit}{P:Int→Bool}(h:kW D P)(k:Int)(d:DataW Unit):kW (D.put (.int .i64 k) d) (fun j=>P j || j == k):=by
 obtain⟨b,rfl,h1,h2⟩:=h
 refine⟨DataW.insert (.int .i64 k,d) (b.filter fun p=>!p.1.sameKey (.int .i64 k)),rfl,?_,fun j=>?_⟩
 ·rw [any_insert,l8 b h1];rfl
 ·by_cases e:j=k
  ·subst e;rw [has_put_same ⟨_,rfl⟩ (by trivial)];simp
  ·rw [has_put_other (by intro a;injection a with _ a;exact e a),h2 j];simp [e]
theorem kW.del {D:DataW Unit}{P:Int→Bool}(h:kW D P)(k:Int):kW (D.del (.int .i64 k)) (fun j=>P j && !(j == k)):=by
 obtain⟨b,rfl,h1,h2⟩:=h
 refine⟨b.filter fun p=>!p.1.sameKey (.int .i64 k),rfl,l8 b h1,fun j=>?_⟩
 by_cases e:j=k
 ·subst e;rw [has_del_same];simp
 ·rw [has_del_other (by intro a;injection a with _ a;exact e a),h2 j];simp [e]
theorem kW.zero {D:DataW Unit}{P:Int→Bool}(h:kW D P):Maps.size D=0↔∀ j,P j=false:=by
 obtain⟨e,rfl,h1,h2⟩:=h;constructor
 ·intro h0 j
  have:e=[]:=List.eq_nil_of_length_eq_zero h0
  subst this;rw [← h2 j];rfl
 ·intro h0
  cases e with
  | nil=>rfl
  | cons p r =>
   exfalso
   rw [List.any_cons] at h1
   have b:D5 p.1=true:=by cases f:D5 p.1 <;> simp_all
   obtain⟨l,d⟩:=p;simp only at b
   cases l with
   | int q a =>
    cases q <;> simp [D5] at b
    have:=h2 a
    rw [h0 a,has_eq] at this
    simp [WideAt.sameKey_self (a:=Lit.int .i64 a) (by trivial)] at this
   | _=>simp [D5] at b
def Ci (T:Tr)(k:Nat)(j:Int):Bool:=decide (0≤j∧j < (k:Int)) && ((nd T j.toNat).kind == 1 && decide ((nd T j.toNat).n < 0))
theorem AA {T:Tr}{k:Nat}(b:Bool)(a:((nd T k).kind == 1 && decide ((nd T k).n < 0))=b)(j:Int):Ci T (k+1) j=(Ci T k j || (b && j == (k:Int))):=by
 unfold Ci;by_cases e:j=(k:Int)
 ·subst e;rw [ak7,a];have h1:decide (0≤(k:Int)∧(k:Int) < ((k+1:Nat):Int))=true:=ak' (by omega);have h2:decide (0≤(k:Int)∧(k:Int) < (k:Int))=false:=ala (by omega);rw [h1,h2];simp
 ·have h1:decide (0≤j∧j < ((k+1:Nat):Int))=decide (0≤j∧j < (k:Int)):=by
   congr 1;apply propext;omega
  rw [h1];simp [e]
def yg (T:Tr)(l:List Int)(j:Int):Bool:=l.any fun c=>(nd T c.toNat).kind == 40 && (nd T c.toNat).kids.contains j
theorem GU (T:Tr)(l:List Int)(c j:Int):yg T (l ++ [c]) j=(yg T l j || ((nd T c.toNat).kind == 40 && (nd T c.toNat).kids.contains j)):=by
 simp [yg]
theorem Q9 (T:Tr):Mist.signed T=true↔∀ j,(Ci T T.nodes.length j && !yg T T.items j)=false:=by
 unfold Mist.signed;rw [ak8];constructor
 ·intro h j;by_cases a:0≤j∧j < (T.nodes.length:Int)
  ·have:=h j.toNat (List.mem_range.2 (by omega))
   have e:((j.toNat:Nat):Int)=j:=by omega
   rw [e] at this
   unfold Ci yg
   revert this
   generalize ((nd T j.toNat).kind == 1 && decide ((nd T j.toNat).n < 0))=x
   generalize (T.items.any fun c=>(nd T c.toNat).kind == 40 && (nd T c.toNat).kids.contains j)=y
   intro this
   cases x <;> cases y <;> simp_all
  ·unfold Ci;rw [ala a];simp
 ·intro h i hi;have hi:=List.mem_range.1 hi
  have:=h (i:Int)
  unfold Ci yg at this
  rw [ak' (by omega),ak7] at this
  revert this
  generalize ((nd T i).kind == 1 && decide ((nd T i).n < 0))=x
  generalize (T.items.any fun c=>(nd T c.toNat).kind == 40 && (nd T c.toNat).kids.contains (i:Int))=y
  intro this
  cases x <;> cases y <;> simp_all
theorem Si:Keyed Tryz.prog 3:=int_keyed Tryz.underlying3
theorem wf_i64 {j:Int}(h:qE≤j∧j≤lD):(Lit.int .i64 j).wf=true:=WalkArith.wf_i64 (by unfold qE lD at h;omega)
theorem Q8 (A B:Option Addr)(c d:Nat)(xs:List NV)(its:List Int)(w:World)(hT:rQ w A B xs its)(hR:Dt (aF xs))(hn:xs.length≤100000)(hm:its.length≤1000000)(hI:∀ q ∈ its,0≤q∧q < (xs.length:Int)) :
  Calls Tryz.prog 92 #[.agg #[.slice A xs.length c,.slice B its.length d]] w fun e w'=>e=.returned (.bool (Mist.signed ⟨aF xs,its⟩))∧Below w.heap.size w w':=by
 obtain⟨n,J⟩:∃ n,n=xs.length:=⟨_,rfl⟩;obtain⟨m,N⟩:∃ m,m=its.length:=⟨_,rfl⟩;rw [← J] at hn hI ⊢
 rw [← N] at hm ⊢
 obtain⟨T,sS⟩:∃ T:Tr,T=⟨aF xs,its⟩:=⟨_,rfl⟩;rw [← sS];have Rv:=O (show T.nodes.length=n by rw [sS,J];exact dL xs);have HTI:=O (show T.items=its by rw [sS]);have AZ:=O sS;clear sS;have uq:=O J;clear J;have Gt:=O N;clear N;have HT:=O hT;clear hT;have HII:=O hI;clear hI;have HRR:=O hR;clear hR;have hmk:=@run_makeMap Tryz.prog;go_in
 go_wp2_with fail;have ni:=O (aG (aG (Below.refl w.heap.size w) (ak0 _) (o:=.cells #[.slice A n c,.slice B m d] 32)) (by simp) (o:=.map #[] 0));have U:=O ((bf.new w 32 #[.slice A n c,.slice B m d]).alloc (.map #[] 0))
 have XV:=O (by
  have h9:=World.ownsMap_made (w.alloc (.cells #[.slice A n c,.slice B m d] 32)) Tryz.prog 3 (plainElem (H:=Unit) Tryz.prog 4);rw [show (w.alloc (.cells #[.slice A n c,.slice B m d] 32)).heap.size=w.heap.size+1 by simp] at h9
  exact h9)
 clear hmk;go_loopw [14] (fun i wr=>∃ (k:Nat) (D:DataW Unit),k≤n∧i=.int .i64 k∧Hid (Below w.heap.size w wr)∧Hid (bf wr w.heap.size 32 #[.slice A n c,.slice B m d])∧wr.ownsMap Tryz.prog 3 (plainElem Tryz.prog 4) (w.heap.size+1) k D∧Hid (kW D (Ci T k))) (fun i _=>n - (intOf i).toNat)
 case atStart=>exact⟨0,.map [],ak2 _,rfl,ni,U,XV.o,O (kW.empty.imp (fun j=>by unfold Ci;rw [ala (by omega)];rfl))⟩
 case round =>
  clear ni U XV;obtain⟨wo,rfl⟩:∃ wo:World,wo=wr:=⟨_,rfl⟩;obtain⟨k,D,hk,rfl,f,r,g,E⟩:=hrel;have a:=O g;clear g;have t0:=r.o.cell 0;have t1:=r.o.cell 1;have htl:=r.o.lt;by_cases M:k < n
  ·obtain⟨b,o,rfl,l⟩:=HT.o.nodes (by rw [← uq.o];omega);obtain⟨x,v⟩:∃ x,xs[k]? = some x:=lF (by rw [← uq.o];exact M);have R:=O (show nd T k=x.1 by rw [AZ.o];exact bI its v);have c0:=(f.o.cell (p:=⟨b,o+k * 5,none⟩) l.lt).trans (l.c0 k x v);have c1:=(f.o.cell (p:=⟨b,o+k * 5+1,none⟩) l.lt).trans (l.c1 k x v);have c2:=(f.o.cell (p:=⟨b,o+k * 5+2,none⟩) l.lt).trans (l.c2 k x v);have c3:=(f.o.cell (p:=⟨b,o+k * 5+3,none⟩) l.lt).trans (l.c3 k x v);have c4:=(f.o.cell (p:=⟨b,o+k * 5+4,none⟩) l.lt).trans (l.c4 k x v);obtain⟨Ak,ck,G,_,_⟩:=l.kid v;rw [G] at c3
   clear l v G;have i1:(0:Int)≤(k:Int):=by omega
   have i2:(k:Int) < (n:Int):=by omega
   have i3:decide (k < n)=true:=ak' M;have F:keyOf Tryz.prog 3 (.int .i64 (k:Int))=some (.int .i64 (k:Int)):=keyOf_int_mk Tryz.underlying3 (wf_i64 (by unfold qE lD;omega));by_cases h1:x.1.kind=1
   ·have e1:((x.1.kind:Int) == 1)=true:=by rw [h1];rfl
    by_cases h2:x.1.n < 0
    ·have e2:decide (x.1.n < 0)=true:=ak' h2;have V:=O (AA (T:=T) (k:=k) true (by rw [R.o];simp [h1,h2]));clear h1 h2
     go_wp2_with (at_mapUpdate
                  refine wpList_mapUpdate_own _ rfl _ _ _ 154 rfl 3 4 Si Tryz.underlying154 _ (w.heap.size+1) k D rfl (a.o.alloc _) (by unfold maxLen;omega) _ _ _ rfl rfl F _ [] (plainElem_bool Tryz.underlying4 true) ?_;intro w1 u y)
     refine⟨⟨k+1,_,by omega,by go_num,O ?_,O ?_,u,O ?_⟩,by simp [intOf];omega⟩
     ·exact (aG f.o f.o.size).grown y (by simp;omega) (fun b W=>by injection W with W;omega)
     ·exact (r.o.alloc _).grown y (by simp)
     ·exact (E.o.put (k:Int) _).imp (fun j=>by rw [V.o j];simp)
    ·have e2:decide (x.1.n < 0)=false:=ala h2;have V:=O (AA (T:=T) (k:=k) false (by rw [R.o];simp [h2]));clear h1 h2;go_wp2_with fail;exact⟨⟨k+1,D,by omega,by go_num,O (aG f.o f.o.size),O (r.o.alloc _),(a.o.alloc _).mono (by omega),O (E.o.imp (fun j=>by rw [V.o j];simp))⟩,by simp [intOf];omega⟩
   ·have e1:((x.1.kind:Int) == 1)=false:=by rw [akW];omega
    have V:=O (AA (T:=T) (k:=k) false (by rw [R.o];simp [h1]));clear h1;go_wp2_with fail;exact⟨⟨k+1,D,by omega,by go_num,O (aG f.o f.o.size),O (r.o.alloc _),(a.o.alloc _).mono (by omega),O (E.o.imp (fun j=>by rw [V.o j];simp))⟩,by simp [intOf];omega⟩
  ·obtain rfl:k=n:=by omega
   have i3:decide (k < k)=false:=ala M;go_wp2_with fail;go_loopw [33] (fun i wr=>∃ (h:Nat) (D:DataW Unit),h≤m∧i=.int .i64 h∧Hid (Below w.heap.size w wr)∧Hid (bf wr w.heap.size 32 #[.slice A k c,.slice B m d])∧wr.ownsMap Tryz.prog 3 (plainElem Tryz.prog 4) (w.heap.size+1) k D∧Hid (kW D (fun j=>Ci T k j && !yg T (its.take h) j))) (fun i _=>m - (intOf i).toNat)
   case atStart=>exact⟨0,D,ak2 _,rfl,f,r,a.o,O (E.o.imp (fun j=>by simp [yg]))⟩
   case round =>
    clear f r a E;obtain⟨wp,rfl⟩:∃ wp:World,wp=wr:=⟨_,rfl⟩;obtain⟨h,D2,hj,rfl,f,r,g,E⟩:=hrel;have a:=O g;clear g;have t0:=r.o.cell 0;have t1:=r.o.cell 1;have htl:=r.o.lt;by_cases L:h < m
    ·obtain⟨q,hq⟩:∃ q,its[h]? = some q:=⟨_,akU (by rw [← Gt.o];exact L)⟩;have hqb:=HII.o q (ak3 hq);obtain⟨qn,rfl⟩:∃ qn:Nat,q=(qn:Int):=⟨q.toNat,by omega⟩;obtain⟨bi,oi,rfl,hbi,X⟩:=HT.o.items.ex (by rw [← Gt.o];omega);have cj:=(f.o.cell (p:=⟨bi,oi+h,none⟩) hbi).trans (X h qn hq);have S:=O (show its.take (h+1)=its.take h ++ [(qn:Int)] by rw [List.take_add_one,hq];rfl);clear X hq;obtain⟨b,o,rfl,l⟩:=HT.o.nodes (by rw [← uq.o];omega);obtain⟨x,v⟩:∃ x,xs[qn]? = some x:=lF (by rw [← uq.o];omega);have R:=O (show nd T qn=x.1 by rw [AZ.o];exact bI its v);have c0:=(f.o.cell (p:=⟨b,o+qn * 5,none⟩) l.lt).trans (l.c0 qn x v);have c3:=(f.o.cell (p:=⟨b,o+qn * 5+3,none⟩) l.lt).trans (l.c3 qn x v);obtain⟨Ak,ck,G,hxl,Z⟩:=l.kid v;have HKR:=O (HRR.o x.1 (List.mem_map_of_mem (ak3 v)));rw [G] at c3
     have FT:=O Z;clear l v G Z;obtain⟨K,P⟩:∃ K,K=x.1.kids.length:=⟨_,rfl⟩;rw [← P] at c3 hxl
     have FQ:=O P;clear P;have i1:(0:Int)≤(qn:Int):=by omega
     have i2:(qn:Int) < (k:Int):=by omega
     have j0:(0:Int)≤(h:Int):=by omega
     have j1:(h:Int) < (m:Int):=by omega
     have j2:decide (h < m)=true:=ak' L;by_cases vk:x.1.kind=40
     ·have e1:((x.1.kind:Int) != 40)=false:=by rw [vk];rfl
      have IW:=O (show ∀ j,yg T (its.take (h+1)) j=(yg T (its.take h) j || x.1.kids.contains j) from fun j=>by
       rw [S.o,GU,ak7,R.o,vk];simp)
      clear vk;go_wp2_with fail;go_loopw [51] (fun i wr=>∃ (t:Nat) (D:DataW Unit),t≤K∧i=.int .i64 t∧Hid (Below w.heap.size w wr)∧Hid (bf wr w.heap.size 32 #[.slice (some ⟨b,o,none⟩) k c,.slice (some ⟨bi,oi,none⟩) m d])∧wr.ownsMap Tryz.prog 3 (plainElem Tryz.prog 4) (w.heap.size+1) k D∧Hid (kW D (fun j=>(Ci T k j && !yg T (its.take h) j) && !(x.1.kids.take t).contains j))) (fun i _=>K - (intOf i).toNat)
      case atStart=>exact⟨0,D2,ak2 _,rfl,f,r,a.o,O (E.o.imp (fun j=>by simp))⟩
      case round =>
       clear f r a E;obtain⟨wq,rfl⟩:∃ wq:World,wq=wr:=⟨_,rfl⟩;obtain⟨t,D3,hz,rfl,f,r,g,E⟩:=hrel;have a:=O g;clear g;by_cases Q:t < K
       ·obtain⟨kq,I⟩:∃ kq,x.1.kids[t]? = some kq:=⟨_,akU (by rw [← FQ.o];exact Q)⟩;obtain⟨bk,ok,rfl,hbk,Y⟩:=FT.o.ex (by rw [← FQ.o];omega);have cz:=(f.o.cell (p:=⟨bk,ok+t,none⟩) hbk).trans (Y t kq I);have HZN:=O (show x.1.kids.take (t+1)=x.1.kids.take t ++ [kq] by rw [List.take_add_one,I];rfl);have F:keyOf Tryz.prog 3 (.int .i64 kq)=some (.int .i64 kq):=keyOf_int_mk Tryz.underlying3 (wf_i64 (HKR.o.kids kq (ak3 I)));clear Y I;have z0:(0:Int)≤(t:Int):=by omega
        have z1:(t:Int) < (K:Int):=by omega
        have z2:decide (t < K)=true:=ak' Q
        go_wp2_with (at_delete
                     refine wpList_delete_own _ rfl _ _ 154 3 rfl 4 Si Tryz.underlying154 _ (w.heap.size+1) k D3 rfl a.o _ _ rfl F ?_;intro w1 u C)
        refine⟨⟨t+1,_,by omega,by go_num,O ?_,O ?_,u,O ?_⟩,by simp [intOf];omega⟩
        ·exact f.o.grown C.grown f.o.size (fun b W=>by injection W with W;omega)
        ·exact r.o.grown C.grown (by simp)
        ·refine (E.o.del kq).imp (fun j=>?_);rw [HZN.o];have h9:(x.1.kids.take t ++ [kq]).contains j=((x.1.kids.take t).contains j || j == kq):=by rw [akZ];simp
         rw [h9,Bool.not_or,Bool.and_assoc]
       ·have HKE:=O (show kW D3 (fun j=>Ci T k j && !yg T (its.take (h+1)) j) from E.o.imp (fun j=>by
         rw [show x.1.kids.take t=x.1.kids from ak4 (by rw [← FQ.o];omega),IW.o j,Bool.not_or,Bool.and_assoc]))
        have z2:decide (t < K)=false:=ala Q;go_wp2_with fail;exact⟨⟨h+1,D3,by omega,by go_num,f,r,a.o,HKE⟩,by simp [intOf];omega⟩
     ·have e1:((x.1.kind:Int) != 40)=true:=by rw [bne_iff_ne];omega
      have IW:=O (show ∀ j,yg T (its.take (h+1)) j=yg T (its.take h) j from fun j=>by
       rw [S.o,GU,ak7,R.o];simp [vk])
      clear vk;go_wp2_with fail;exact⟨⟨h+1,D2,by omega,by go_num,f,r,a.o,O (E.o.imp (fun j=>by rw [IW.o j]))⟩,by simp [intOf];omega⟩
    ·have j2:decide (h < m)=false:=ala L
     have HSG:=O (show Mist.signed T=decide (Maps.size D2=0) by
      have h9:=E.o;rw [ak4 (by rw [← Gt.o];omega),← HTI.o] at h9
      rw [akZ,Q9,decide_eq_true_eq,h9.zero,Rv.o])
     go_wp2_with (at_len
                  refine wpList_len_own _ rfl _ 154 rfl 3 4 Tryz.underlying154 _ (w.heap.size+1) k D2 rfl a.o ?_)
     go_ret
     refine⟨bM ?_,f.o⟩
     rw [HSG.o,akZ];simp
end
section
open Go.RowKit Mist
attribute [local go_sem] ah aM aV au ak
theorem wN (f g h i:Value)(b:Option Addr)(a j:Nat)(l:a≤1000000)(w:World):Calls Tryz.prog 89 #[.agg #[f,g,h,.slice b a j,i]] w fun e k=>e=.returned (.int .i64 ((a:Int) - 2))∧Below w.heap.size w k:=by
 go_in
 go_wp2;go_ret;exact⟨rfl,aG (Below.refl _ _) (ak0 _)⟩
def nu (T:Tr)(x:Nd):Prop:=x.kind=40→∃ k0 k1:Nat,x.kids=[(k0:Int),(k1:Int)]∧k0 < T.nodes.length∧k1 < T.nodes.length∧(-9999≤(nd T k0).n∧(nd T k0).n≤9999)∧(-9999≤(nd T k1).n∧(nd T k1).n≤9999)
theorem abg (T:Tr)(A:Option Addr)(n c:Nat)(B:Option Addr)(m d:Nat)(x:Nd)(g:Option Addr)(f h:Nat)(b:f=x.kids.length)(y:f≤1000000)(w:World)(a:x.kind=41) :
  Calls Tryz.prog 50 #[.agg #[.slice A n c,.slice B m d],.agg #[.int .u8 x.kind,.string (aH x.text),.int .i64 x.n,.slice g f h,.int .i64 x.at_]] w fun e v=>e=.returned (.bool (Mist.sized T x))∧Below w.heap.size w v:=by
 have q:((x.kind:Int) == 40)=false:=by rw [a];rfl
 have r:((x.kind:Int) == 41)=true:=by rw [a];rfl
 have t:((x.kind:Int) == 42)=false:=by rw [a];rfl
 have l:((x.kind:Int) == 33)=false:=by rw [a];rfl
 have k:((x.kind:Int) == 26)=false:=by rw [a];rfl
 have u:((x.kind:Int) == 46)=false:=by rw [a];rfl
 have j:=O (show Mist.sized T x=decide (f≤6) by simp [Mist.sized,a,b]);clear a b;have i:=O (aG (aG (Below.refl w.heap.size w) (ak0 _) (o:=.cells #[.slice A n c,.slice B m d] 32)) (by simp) (o:=.cells #[.int .u8 x.kind,.string (aH x.text),.int .i64 x.n,.slice g f h,.int .i64 x.at_] 50));go_in
 go_wp2;go_ret;exact⟨bM (by rw [j.o];rw [akZ];simp;omega),i.o⟩
theorem abd (T:Tr)(A:Option Addr)(n c:Nat)(B:Option Addr)(m d:Nat)(x:Nd)(g:Option Addr)(f h:Nat)(b:f=x.kids.length)(y:f≤1000000)(w:World)(a:x.kind=26) :
  Calls Tryz.prog 50 #[.agg #[.slice A n c,.slice B m d],.agg #[.int .u8 x.kind,.string (aH x.text),.int .i64 x.n,.slice g f h,.int .i64 x.at_]] w fun e v=>e=.returned (.bool (Mist.sized T x))∧Below w.heap.size w v:=by
 have q:((x.kind:Int) == 40)=false:=by rw [a];rfl
 have r:((x.kind:Int) == 41)=false:=by rw [a];rfl
 have t:((x.kind:Int) == 42)=false:=by rw [a];rfl
 have l:((x.kind:Int) == 33)=false:=by rw [a];rfl
 have k:((x.kind:Int) == 26)=true:=by rw [a];rfl
 have u:((x.kind:Int) == 46)=false:=by rw [a];rfl
 have j:=O (show Mist.sized T x=decide (f≤6) by simp [Mist.sized,a,b]);clear a b;have i:=O (aG (aG (Below.refl w.heap.size w) (ak0 _) (o:=.cells #[.slice A n c,.slice B m d] 32)) (by simp) (o:=.cells #[.int .u8 x.kind,.string (aH x.text),.int .i64 x.n,.slice g f h,.int .i64 x.at_] 50));go_in
 go_wp2;go_ret;exact⟨bM (by rw [j.o];rw [akZ];simp;omega),i.o⟩
theorem abe (T:Tr)(A:Option Addr)(n c:Nat)(B:Option Addr)(m d:Nat)(x:Nd)(g:Option Addr)(f h:Nat)(b:f=x.kids.length)(y:f≤1000000)(w:World)(a:x.kind=33) :
  Calls Tryz.prog 50 #[.agg #[.slice A n c,.slice B m d],.agg #[.int .u8 x.kind,.string (aH x.text),.int .i64 x.n,.slice g f h,.int .i64 x.at_]] w fun e v=>e=.returned (.bool (Mist.sized T x))∧Below w.heap.size w v:=by
 have q:((x.kind:Int) == 40)=false:=by rw [a];rfl
 have r:((x.kind:Int) == 41)=false:=by rw [a];rfl
 have t:((x.kind:Int) == 42)=false:=by rw [a];rfl
 have l:((x.kind:Int) == 33)=true:=by rw [a];rfl
 have k:((x.kind:Int) == 26)=false:=by rw [a];rfl
 have u:((x.kind:Int) == 46)=false:=by rw [a];rfl
 have j:=O (show Mist.sized T x=Mist.within x.n 1 6 by simp [Mist.sized,a,b]);clear a b;have i:=O (aG (aG (Below.refl w.heap.size w) (ak0 _) (o:=.cells #[.slice A n c,.slice B m d] 32)) (by simp) (o:=.cells #[.int .u8 x.kind,.string (aH x.text),.int .i64 x.n,.slice g f h,.int .i64 x.at_] 50));go_in
 go_wp2_with fail;refine (eD x.n 1 6 _ rfl _).mono ?_;rintro e C⟨rfl,rfl⟩;go_wp2_with fail;go_ret;exact⟨bM j.o.symm,i.o⟩
theorem abj (T:Tr)(A:Option Addr)(n c:Nat)(B:Option Addr)(m d:Nat)(x:Nd)(h:Option Addr)(f k:Nat)(b:f=x.kids.length)(D:f≤1000000)(w:World)(a:x.kind=46) :
  Calls Tryz.prog 50 #[.agg #[.slice A n c,.slice B m d],.agg #[.int .u8 x.kind,.string (aH x.text),.int .i64 x.n,.slice h f k,.int .i64 x.at_]] w fun e C=>e=.returned (.bool (Mist.sized T x))∧Below w.heap.size w C:=by
 have t:((x.kind:Int) == 40)=false:=by rw [a];rfl
 have u:((x.kind:Int) == 41)=false:=by rw [a];rfl
 have v:((x.kind:Int) == 42)=false:=by rw [a];rfl
 have r:((x.kind:Int) == 33)=false:=by rw [a];rfl
 have q:((x.kind:Int) == 26)=false:=by rw [a];rfl
 have y:((x.kind:Int) == 46)=true:=by rw [a];rfl
 have j:=O (show Mist.sized T x=(!(x.n == 8) || decide (f≤4)) by simp [Mist.sized,a,b]);clear a b;have i:=O (aG (aG (Below.refl w.heap.size w) (ak0 _) (o:=.cells #[.slice A n c,.slice B m d] 32)) (by simp) (o:=.cells #[.int .u8 x.kind,.string (aH x.text),.int .i64 x.n,.slice h f k,.int .i64 x.at_] 50));by_cases h8:x.n=8
 ·have l:(x.n != 8)=false:=by simp [h8]
  have g:=O (show (x.n == 8)=true by simpa using h8);clear h8;go_in
  go_wp2;go_ret;exact⟨bM (by rw [j.o,g.o];rw [akZ];simp;omega),i.o⟩
 ·have l:(x.n != 8)=true:=by simpa using h8
  have g:=O (show (x.n == 8)=false by simpa using h8);clear h8;go_in
  go_wp2;go_ret;exact⟨bM (by rw [j.o,g.o];rfl),i.o⟩
theorem abh (T:Tr)(A:Option Addr)(n c:Nat)(B:Option Addr)(m d:Nat)(x:Nd)(j:Option Addr)(a l:Nat)(q:a=x.kids.length)(C:a≤1000000)(w:World)(i:x.kind=42) :
  Calls Tryz.prog 50 #[.agg #[.slice A n c,.slice B m d],.agg #[.int .u8 x.kind,.string (aH x.text),.int .i64 x.n,.slice j a l,.int .i64 x.at_]] w fun e L=>e=.returned (.bool (Mist.sized T x))∧Below w.heap.size w L:=by
 have G:((x.kind:Int) == 40)=false:=by rw [i];rfl
 have H:((x.kind:Int) == 41)=false:=by rw [i];rfl
 have I:((x.kind:Int) == 42)=true:=by rw [i];rfl
 have F:((x.kind:Int) == 33)=false:=by rw [i];rfl
 have E:((x.kind:Int) == 26)=false:=by rw [i];rfl
 have J:((x.kind:Int) == 46)=false:=by rw [i];rfl
 have v:=O (show Mist.sized T x=(decide ((a:Int) - 2≤4) && decide (x.n≤8)) by simp [Mist.sized,i,q]);clear i q;have u:=O (aG (aG (Below.refl w.heap.size w) (ak0 _) (o:=.cells #[.slice A n c,.slice B m d] 32)) (by simp) (o:=.cells #[.int .u8 x.kind,.string (aH x.text),.int .i64 x.n,.slice j a l,.int .i64 x.at_] 50));by_cases h6:(a:Int) - 2≤4
 ·have r:decide ((a:Int) - 2≤4)=true:=ak' h6;by_cases h8:x.n≤8
  ·have y:decide (x.n≤8)=true:=ak' h8;have f:=O (show Mist.sized T x=true by rw [v.o,r,y];rfl);go_in
   go_wp2_with fail;refine (wN _ _ _ _ j a l C _).mono ?_;rintro e t⟨rfl,g⟩;have D:=O (show bf t (w.heap.size+1) 50 #[.int .u8 x.kind,.string (aH x.text),.int .i64 x.n,.slice j a l,.int .i64 x.at_] from bf.below (by repeat (first|(with_reducible exact bf.new _ _ _)|(refine (show ∀ {W:World} {cs:Array Value} {T:TypeId} {k:Nat},W.heap.size=k→bf (W.alloc (.cells cs T)) k T cs from fun h=>by subst h;exact bf.new _ _ _) (by simp)))) g (by simp));have K:=D.o.cell 2;have b:=O (u.o.trans (g.mono (by simp;omega)));clear g;go_wp2_with fail;go_ret;exact⟨bM f.o.symm,b.o⟩
  ·have y:decide (x.n≤8)=false:=ala h8;have f:=O (show Mist.sized T x=false by rw [v.o,r,y];rfl);go_in
   go_wp2_with fail;refine (wN _ _ _ _ j a l C _).mono ?_;rintro e t⟨rfl,g⟩;have D:=O (show bf t (w.heap.size+1) 50 #[.int .u8 x.kind,.string (aH x.text),.int .i64 x.n,.slice j a l,.int .i64 x.at_] from bf.below (by repeat (first|(with_reducible exact bf.new _ _ _)|(refine (show ∀ {W:World} {cs:Array Value} {T:TypeId} {k:Nat},W.heap.size=k→bf (W.alloc (.cells cs T)) k T cs from fun h=>by subst h;exact bf.new _ _ _) (by simp)))) g (by simp));have K:=D.o.cell 2;have b:=O (u.o.trans (g.mono (by simp;omega)));clear g;go_wp2_with fail;go_ret;exact⟨bM f.o.symm,b.o⟩
 ·have r:decide ((a:Int) - 2≤4)=false:=ala h6;have f:=O (show Mist.sized T x=false by rw [v.o,r];rfl);go_in
  go_wp2_with fail;refine (wN _ _ _ _ j a l C _).mono ?_;rintro e t⟨rfl,g⟩;have b:=O (u.o.trans (g.mono (by simp;omega)));clear g;go_wp2_with fail;go_ret;exact⟨bM f.o.symm,b.o⟩
theorem Ny (T:Tr)(A:Option Addr)(n c:Nat)(B:Option Addr)(m d:Nat)(x:Nd)(f:Option Addr)(a g:Nat)(b:a=x.kids.length)(y:a≤1000000)(w:World)(h:¬ x.kind=40)(h41:¬ x.kind=41)(h42:¬ x.kind=42)(h33:¬ x.kind=33)(h26:¬ x.kind=26)(h46:¬ x.kind=46) :
  Calls Tryz.prog 50 #[.agg #[.slice A n c,.slice B m d],.agg #[.int .u8 x.kind,.string (aH x.text),.int .i64 x.n,.slice f a g,.int .i64 x.at_]] w fun e v=>e=.returned (.bool (Mist.sized T x))∧Below w.heap.size w v:=by
 have q:((x.kind:Int) == 40)=false:=by rw [akW];omega
 have r:((x.kind:Int) == 41)=false:=by rw [akW];omega
 have t:((x.kind:Int) == 42)=false:=by rw [akW];omega
 have l:((x.kind:Int) == 33)=false:=by rw [akW];omega
 have k:((x.kind:Int) == 26)=false:=by rw [akW];omega
 have u:((x.kind:Int) == 46)=false:=by rw [akW];omega
 have j:=O (show Mist.sized T x=true by simp [Mist.sized,h,h41,h42,h33,h26,h46]);clear h h41 h42 h33 h26 h46 b;have i:=O (aG (aG (Below.refl w.heap.size w) (ak0 _) (o:=.cells #[.slice A n c,.slice B m d] 32)) (by simp) (o:=.cells #[.int .u8 x.kind,.string (aH x.text),.int .i64 x.n,.slice f a g,.int .i64 x.at_] 50));go_in
 go_wp2;go_ret;exact⟨bM j.o.symm,i.o⟩
theorem abf (xs:List NV)(its:List Int)(b o n c:Nat)(B:Option Addr)(m d:Nat)(x:Nd)(C:Option Addr)(y E:Nat)(w:World)(u:rU w b o xs)(hn:n=xs.length)(j:x.kind=40)(F:nu ⟨aF xs,its⟩ x)(r:y=x.kids.length)(G:IntsIn w C x.kids) :
  Calls Tryz.prog 50 #[.agg #[.slice (some ⟨b,o,none⟩) n c,.slice B m d],.agg #[.int .u8 x.kind,.string (aH x.text),.int .i64 x.n,.slice C y E,.int .i64 x.at_]] w fun e Z=>e=.returned (.bool (Mist.sized ⟨aF xs,its⟩ x))∧Below w.heap.size w Z:=by
 obtain⟨k0,t,f,h0,h1,D,b1⟩:=F j;rw [dL,← hn] at h0 h1
 obtain⟨H,k⟩:=lF (xs:=xs) (i:=k0) (by omega);obtain⟨I,l⟩:=lF (xs:=xs) (i:=t) (by omega);rw [bI its k] at D
 rw [bI its l] at b1
 obtain⟨L,g⟩:∃ a,a=H.1.n:=⟨_,rfl⟩;obtain⟨M,h⟩:∃ a,a=I.1.n:=⟨_,rfl⟩;rw [← g] at D
 rw [← h] at b1
 have K:=O (show Mist.sized ⟨aF xs,its⟩ x=Mist.within (M - L+1) 1 12 by
  simp only [Mist.sized,j,if_true];rw [f];simp only [List.getD_cons_succ,List.getD_cons_zero,ak7];rw [bI its k,bI its l,g,h])
 have P:=u.c2 k0 H k;have c1:=u.c2 t I l;rw [← g] at P
 rw [← h] at c1
 obtain⟨N,ok,rfl,X,q⟩:=G.ex (by rw [f];simp);have Q:=q 0 k0 (by rw [f];rfl);have d1:=q 1 t (by rw [f];rfl);rw [Nat.add_zero] at Q
 have v:y=2:=by rw [r,f];rfl
 subst v;have Y:=u.lt;have T:((x.kind:Int) == 40)=true:=by rw [j];rfl
 have U:((x.kind:Int) == 41)=false:=by rw [j];rfl
 have V:((x.kind:Int) == 42)=false:=by rw [j];rfl
 have S:((x.kind:Int) == 33)=false:=by rw [j];rfl
 have R:((x.kind:Int) == 26)=false:=by rw [j];rfl
 have W:((x.kind:Int) == 46)=false:=by rw [j];rfl
 clear j r q f k l g h u G hn F;have i0:(0:Int)≤(k0:Int):=by omega
 have i1:(k0:Int) < (n:Int):=by omega
 have j0:(0:Int)≤(t:Int):=by omega
 have j1:(t:Int) < (n:Int):=by omega
 have J:=O (aG (aG (Below.refl w.heap.size w) (ak0 _) (o:=.cells #[.slice (some ⟨b,o,none⟩) n c,.slice B m d] 32)) (by simp) (o:=.cells #[.int .u8 x.kind,.string (aH x.text),.int .i64 x.n,.slice (some ⟨N,ok,none⟩) 2 E,.int .i64 x.at_] 50));go_in
 go_wp2_with fail;go_quiet (fail)
 go_wp2_with fail;refine (eD _ 1 12 _ rfl _).mono ?_;rintro e w2⟨rfl,rfl⟩;go_wp2_with fail;go_ret;exact⟨bM K.o.symm,gJ J.o _⟩
theorem Wy (xs:List NV)(its:List Int)(A:Option Addr)(n c:Nat)(B:Option Addr)(m d:Nat)(x:Nd)(g:Option Addr)(f h:Nat)(w:World)(hT:rQ w A B xs its)(hn:n=xs.length)(k:nu ⟨aF xs,its⟩ x)(a:f=x.kids.length)(i:f≤1000000)(l:IntsIn w g x.kids) :
  Calls Tryz.prog 50 #[.agg #[.slice A n c,.slice B m d],.agg #[.int .u8 x.kind,.string (aH x.text),.int .i64 x.n,.slice g f h,.int .i64 x.at_]] w fun e r=>e=.returned (.bool (Mist.sized ⟨aF xs,its⟩ x))∧Below w.heap.size w r:=by
 by_cases j:x.kind=40
 ·obtain⟨k0,t,_,h0,_⟩:=k j;rw [dL] at h0
  obtain⟨b,o,rfl,q⟩:=hT.nodes (by omega);exact abf xs its b o n c B m d x g f h w q hn j k a l
 by_cases h41:x.kind=41
 ·exact abg _ A n c B m d x g f h a i w h41
 by_cases h42:x.kind=42
 ·exact abh _ A n c B m d x g f h a i w h42
 by_cases h33:x.kind=33
 ·exact abe _ A n c B m d x g f h a i w h33
 by_cases h26:x.kind=26
 ·exact abd _ A n c B m d x g f h a i w h26
 by_cases h46:x.kind=46
 ·exact abj _ A n c B m d x g f h a i w h46
 exact Ny _ A n c B m d x g f h a i w j h41 h42 h33 h26 h46
def uO (p:Nd→Bool)(l:List Nd):Int :=
 match l.findIdx? p with
 | some i=>(i:Int)
 | none=>-1
theorem Pq {p:Nd→Bool}{l:List Nd}{k:Nat}{x:Nd}(h:(l.take k).all (fun y=>!p y)=true)(e:l[k]? = some x)(b:p x=true):uO p l=(k:Int):=by
 have:l.findIdx? p=some k:=by
  rw [List.findIdx?_eq_some_iff_getElem];obtain⟨a,rfl⟩:=akV.1 e
  refine⟨a,b,fun j f=>?_⟩
  have:=ak8.1 h l[j] (by rw [List.mem_take_iff_getElem];exact⟨j,by omega,rfl⟩)
  simpa using this
 unfold uO;rw [this]
theorem La {p:Nd→Bool}{l:List Nd}(h:l.all (fun y=>!p y)=true):uO p l=-1:=by
 have:l.findIdx? p=none:=by
  rw [List.findIdx?_eq_none_iff];intro x a
  have:=ak8.1 h x a
  simpa using this
 unfold uO;rw [this]
def outT (T:Tr):Int:=uO (fun x=>!Mist.sized T x) T.nodes
theorem Mq (T:Tr):decide (0≤outT T)=!(T.nodes.all (Mist.sized T)):=by
 unfold outT uO;rcases h:T.nodes.findIdx? (fun x=>!Mist.sized T x) with _ | i
 ·rw [List.findIdx?_eq_none_iff] at h
  have:T.nodes.all (Mist.sized T)=true:=by
   rw [ak8];intro x e;simpa using h x e
  rw [this];rfl
 ·rw [List.findIdx?_eq_some_iff_getElem] at h
  obtain⟨a,b,_⟩:=h
  have:T.nodes.all (Mist.sized T)=false:=by
   rw [List.all_eq_false];exact⟨_,List.getElem_mem a,by simpa using b⟩
  rw [this]
  show decide ((0:Int)≤(i:Int))=true
  exact ak' (by omega)
section
variable (xs:List NV) (its:List Int) (A:Option Addr) (n c:Nat) (B:Option Addr) (m d:Nat) (w0:World) (hT:rQ w0 A B xs its) (hn:n=xs.length) (hm:m=its.length)
include hT hn
theorem aam (tb:Nat)(x:Nd)(g:Option Addr)(f i:Nat)(w:World)(a:Below w0.heap.size w0 w)(h:bf w tb 32 #[.slice A n c,.slice B m d])(k:nu ⟨aF xs,its⟩ x)(b:f=x.kids.length)(r:f≤1000000)(l:IntsIn w0 g x.kids) :
  Calls Tryz.prog 49 #[.agg #[.int .u8 x.kind,.string (aH x.text),.int .i64 x.n,.slice g f i,.int .i64 x.at_],.pointer (some ⟨tb,0,none⟩)] w fun e u=>e=.returned (.bool (!Mist.sized ⟨aF xs,its⟩ x))∧Below w.heap.size w u:=by
 have j:=O (Wy xs its A n c B m d x g f i (w.alloc (.cells #[.int .u8 x.kind,.string (aH x.text),.int .i64 x.n,.slice g f i,.int .i64 x.at_] 50)) ((hT.below a).below (aG (Below.refl _ _) (ak0 _))) hn k b r ((l.below a).below (aG (Below.refl _ _) (ak0 _))));have v:=h.cell 0;have y:=h.cell 1;have t:=h.lt;obtain⟨T,q⟩:∃ T:Tr,T=⟨aF xs,its⟩:=⟨_,rfl⟩;rw [← q] at j ⊢
 clear hT k b l a h q hn;go_in
 go_wp2_with fail;refine j.o.mono ?_;rintro e C⟨rfl,a⟩;go_wp2_with fail;go_ret;exact⟨rfl,(aG (Below.refl _ _) (ak0 _)).trans (a.mono (by simp))⟩
theorem UK (hn6:n≤100000)(tb:Nat)(w:World)(E:Below w0.heap.size w0 w)(G:bf w tb 32 #[.slice A n c,.slice B m d])(D:∀ x ∈ aF xs,nu ⟨aF xs,its⟩ x) :
  Calls Tryz.prog 48 #[.slice A n c,.func (.func 49) #[] #[.pointer (some ⟨tb,0,none⟩)]] w fun e w'=>e=.returned (.int .i64 (outT ⟨aF xs,its⟩))∧Below w.heap.size w w':=by
 have Y:=O (fun tb x I nk N w E G D P hl hI=>aam xs its A n c B m d w0 hT hn tb x I nk N w E G D P hl hI);obtain⟨T,H⟩:∃ T:Tr,T=⟨aF xs,its⟩:=⟨_,rfl⟩;have V:=O (show T.nodes=aF xs by rw [H]);rw [← H];have W:=O H;clear H;have HT:=O hT;clear hT;have L:=O hn;clear hn;have X:=O D;clear D;have S:=O E;clear E;have t:=O G;clear G;go_in
 go_wp2_with fail;go_loopw [8] (fun i wr=>∃ k:Nat,k≤n∧i=.int .i64 k∧Hid (((aF xs).take k).all (fun y=>!(!Mist.sized T y))=true)∧Hid (Below w.heap.size w wr)) (fun i _=>n - (intOf i).toNat)
 case atStart=>exact⟨0,ak2 _,rfl,O rfl,O (Below.refl _ _)⟩
 case round =>
  obtain⟨R,rfl⟩:∃ R:World,R=wr:=⟨_,rfl⟩;obtain⟨k,hk,rfl,J,l⟩:=hrel;by_cases r:k < n
  ·obtain⟨b,o,rfl,f⟩:=HT.o.nodes (by rw [← L.o];omega);obtain⟨x,h⟩:∃ x,xs[k]? = some x:=lF (by rw [← L.o];exact r);have a:=S.o.trans (l.o.mono S.o.size);have c0:=(a.cell (p:=⟨b,o+k * 5,none⟩) f.lt).trans (f.c0 k x h);have c1:=(a.cell (p:=⟨b,o+k * 5+1,none⟩) f.lt).trans (f.c1 k x h);have c2:=(a.cell (p:=⟨b,o+k * 5+2,none⟩) f.lt).trans (f.c2 k x h);have c3:=(a.cell (p:=⟨b,o+k * 5+3,none⟩) f.lt).trans (f.c3 k x h);have c4:=(a.cell (p:=⟨b,o+k * 5+4,none⟩) f.lt).trans (f.c4 k x h);obtain⟨I,N,v,Q,C⟩:=f.kid h;rw [v] at c3
   have j:x.1 ∈ aF xs:=List.mem_map_of_mem (ak3 h);have q:=O (Y.o tb x.1 I _ N R a (t.o.below l.o t.o.lt) (X.o x.1 j) rfl Q C);rw [← W.o] at q
   have U:=O (vB h);clear f h v a j C;have i1:(0:Int)≤(k:Int):=by omega
   have i2:(k:Int) < (n:Int):=by omega
   have i3:decide (k < n)=true:=ak' r;have Z:=O (show (aF xs).take (k+1)=(aF xs).take k ++ [x.1] by rw [List.take_add_one,U.o];rfl)
   cases F:Mist.sized T x.1
   ·have u:=O F;clear F
    have M:=O (show outT T=(k:Int) by
     unfold outT;rw [V.o];exact Pq J.o U.o (by rw [u.o];rfl))
    go_wp2_with fail;refine q.o.mono ?_;rintro e w2⟨rfl,g⟩;rw [u.o];go_wp2_with fail;go_ret;exact⟨by rw [M.o];rfl,l.o.trans (g.mono l.o.size)⟩
   ·have u:=O F;clear F;go_wp2_with fail;refine q.o.mono ?_;rintro e w2⟨rfl,g⟩;rw [u.o];have K:=O (l.o.trans (g.mono l.o.size));clear g;go_wp2_with fail;exact⟨⟨k+1,by omega,by go_num,O (by rw [Z.o,List.all_append,J.o];simp [u.o]),K⟩,by simp [intOf];omega⟩
  ·have M:=O (show outT T=-1 by
    have h9:=J.o;rw [ak4 (by rw [dL,← L.o];omega)] at h9
    unfold outT;rw [V.o];exact La h9)
   have i3:decide (k < n)=false:=ala r;go_wp2_with fail;go_ret;exact⟨by rw [M.o];rfl,l.o⟩
end
theorem yP (xs:List NV)(its:List Int)(A:Option Addr)(c:Nat)(B:Option Addr)(m d:Nat)(w:World)(hT:rQ w A B xs its)(a:xs.length≤100000)(b:∀ x ∈ aF xs,nu ⟨aF xs,its⟩ x) :
  Calls Tryz.prog 19 #[.agg #[.slice A xs.length c,.slice B m d]] w fun e h=>e=.returned (.int .i64 (outT ⟨aF xs,its⟩))∧Below w.heap.size w h:=by
 have f:=O (UK xs its A xs.length c B m d w hT rfl a w.heap.size (w.alloc (.cells #[.slice A xs.length c,.slice B m d] 32)) (aG (Below.refl _ _) (ak0 _)) (bf.new _ _ _) b);clear hT b;go_in
 go_wp2_with fail;refine f.o.mono ?_;rintro e i⟨rfl,g⟩;go_wp2_with fail;go_ret;exact⟨rfl,(aG (Below.refl _ _) (ak0 _)).trans (g.mono (by simp))⟩
end
section
open Go.RowKit Mist
def ow (n m:Nat):Bool:=decide (800 < n) || decide (60 < m)
theorem Ho (A B:Option Addr)(n m c d:Nat)(w:World):Calls Tryz.prog 17 #[.agg #[.slice A n c,.slice B m d]] w fun e g=>e=.returned (.bool (ow n m))∧Below w.heap.size w g:=by
 by_cases h1:800 < n
 ·have b:decide ((800:Int) < (n:Int))=true:=ak' (by omega);have a:=O (show ow n m=true by simp [ow,h1]);go_in
  go_wp2;go_ret;exact⟨(by rw [a.o];rfl),aG (Below.refl _ _) (ak0 _)⟩
 ·have b:decide ((800:Int) < (n:Int))=false:=ala (by omega);by_cases h2:60 < m
  ·have f:decide ((60:Int) < (m:Int))=true:=ak' (by omega);have a:=O (show ow n m=true by simp [ow,h2]);go_in
   go_wp2;go_ret;exact⟨(by rw [a.o];rfl),aG (Below.refl _ _) (ak0 _)⟩
  ·have f:decide ((60:Int) < (m:Int))=false:=ala (by omega);have a:=O (show ow n m=false by simp [ow,h1,h2]);go_in
   go_wp2;go_ret;exact⟨(by rw [a.o];rfl),aG (Below.refl _ _) (ak0 _)⟩
def jN (ns:List Nd):Int:=if ns.length=0 then 0 else Lib.maxOf ((iN ns).map fun (d:Nat)=>(d:Int))
theorem K8 (b o c m d:Nat)(B:Option Addr)(xs:List NV)(w:World)(h:zM w b o xs)(i:Wf (aF xs))(hn:xs.length≤100000)(h0:0 < xs.length) :
  Calls Tryz.prog 18 #[.agg #[.slice (some ⟨b,o,none⟩) xs.length c,.slice B m d]] w fun e v=>e=.returned (.int .i64 (jN (aF xs)))∧Below w.heap.size w v:=by
 have r:=O (Pm b o c m d B xs (w.alloc (.cells #[.slice (some ⟨b,o,none⟩) xs.length c,.slice B m d] 32)) (h.below ((Below.refl _ _).alloc (ak0 _) _)) i hn);have t:=O (show jN (aF xs)=Lib.maxOf ((iN (aF xs)).map fun (d:Nat)=>(d:Int)) by unfold jN;rw [dL,if_neg (by omega)]);have y:((xs.length:Int) == 0)=false:=by simp;intro e;subst e;simp at h0
 have f:=O (show (iN (aF xs)).length=xs.length by unfold iN;rw [x9,List.length_replicate,dL]);clear h i;go_in
 go_wp2_with fail;refine r.o.mono ?_;rintro e w1⟨g,rfl,x,k,l⟩;have q:=O k;clear k;have u:=O l;clear l;go_wp2_with fail
 refine (Tryz.slices_Max_int g 0 xs.length xs.length ((iN (aF xs)).map fun (d:Nat)=>(d:Int)) w1 h0 (by rw [List.length_map,f.o];exact ak0 _) (by omega) (fun j a=>by
  rw [List.length_map] at a
  rw [Nat.zero_add,q.o.cell j,rJ _ j a];simp [akY,akU a])).mono ?_
 rintro e C⟨rfl,rfl⟩;go_wp2_with fail;go_ret
 refine⟨?_,(aG (Below.refl _ _) (ak0 _)).trans (u.o.mono (by simp))⟩
 rw [t.o,ak4 (by rw [List.length_map,f.o];exact ak0 _)];rfl
end
