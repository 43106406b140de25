/-
  A part of the proof.
-/
import Derived.Test.YthepmkjggfijoaaGreatDoorSA
import Derived.Laws.EntriesVeiled
import Derived.Maps.OwnSet
import Derived.Maps.Keyed
import Derived.Deep.QuietTactic
import Derived.BigQuiet
import Derived.Test.YthepmkjggfijoaaGreatDoorS20
import Derived.Test.YthepmkjggfijoaaGreatDoorS26
set_option linter.all false
set_option maxRecDepth 100000
set_option maxHeartbeats 4000000
namespace Go.Proofs.YthepmkjggfijoaaGreatDoor
open Go.RowKit Mist
def nR (T:Tr)(o:Option Nat)(i:Int):Option Nat:=o.bind fun x=>if Mist.within i x ((T.nodes.length:Int) - 1)=true then Mist.walk T (i.toNat+1) i.toNat true x else none
theorem Im (T:Tr):∀ l:List Int,l.foldl (nR T) none=none
 | []=>rfl
 | _ :: r=>Im T r
theorem MJ {T:Tr}{y:Nat}(h:T.items.foldl (nR T) (some 0)=some y):Mist.ordered T=(y == T.nodes.length):=by
 unfold Mist.ordered;unfold nR at h
 rw [h]
theorem Cx {T:Tr}(h:T.items.foldl (nR T) (some 0)=none):Mist.ordered T=false:=by
 unfold Mist.ordered;unfold nR at h
 rw [h]
theorem OW (A B:Option Addr)(c d:Nat)(xs:List NV)(a:List Int)(w:World)(hT:mq w A B xs a)(hR:xO (aA xs))(hn:xs.length≤100000)(hm:a.length≤1000000)(hK:∀ (i:Nat) x,xs[i]? = some x→∀ k ∈ x.1.kids,0≤k∧k≤(i:Int) - 1) :
  Calls Tryz.prog 62 #[.agg #[.slice A xs.length c,.slice B a.length d]] w fun e w'=>e=.returned (.bool (Mist.ordered ⟨aA xs,a⟩))∧Below w.heap.size w w':=by
 obtain⟨n,u⟩:∃ n,n=xs.length:=⟨_,rfl⟩;obtain⟨m,D⟩:∃ m,m=a.length:=⟨_,rfl⟩;rw [← u] at hn ⊢
 rw [← D] at hm ⊢
 obtain⟨T,P⟩:∃ T:Tr,T=⟨aA xs,a⟩:=⟨_,rfl⟩;rw [← P];have Nh:=O (show T.nodes.length=n by rw [P,u];exact aD xs);have C:=O (show T.items=a by rw [P]);have F9:=O P;clear P;have pF:=O u;clear u;have Q:=O D;clear D;have HT:=O hT;clear hT;have U:=O hK;clear hK;have V:=O hR;clear hR;go_in
 go_wp2_with fail;have L:=((aC.new w 26 #[.slice A n c,.slice B m d]).alloc (.cells #[.int .i64 0] 3)).alloc (.cells #[.func (.func 106) #[] #[.pointer (some ⟨w.heap.size,0,none⟩),.pointer (some ⟨w.heap.size+1+1,0,none⟩),.pointer (some ⟨w.heap.size+1,0,none⟩)]] 123)
 have E:aC (((w.alloc (.cells #[.slice A n c,.slice B m d] 26)).alloc (.cells #[.int .i64 0] 3)).alloc (.cells #[.func (.func 106) #[] #[.pointer (some ⟨w.heap.size,0,none⟩),.pointer (some ⟨w.heap.size+1+1,0,none⟩),.pointer (some ⟨w.heap.size+1,0,none⟩)]] 123)) (w.heap.size+1) 3 #[.int .i64 0]:=by
  refine aC.alloc ?_ _;have h9:=aC.new (w.alloc (.cells #[.slice A n c,.slice B m d] 26)) 3 #[.int .i64 0]
  rwa [show (w.alloc (.cells #[.slice A n c,.slice B m d] 26)).heap.size=w.heap.size+1 by simp] at h9
 have M:aC (((w.alloc (.cells #[.slice A n c,.slice B m d] 26)).alloc (.cells #[.int .i64 0] 3)).alloc (.cells #[.func (.func 106) #[] #[.pointer (some ⟨w.heap.size,0,none⟩),.pointer (some ⟨w.heap.size+1+1,0,none⟩),.pointer (some ⟨w.heap.size+1,0,none⟩)]] 123)) (w.heap.size+1+1) 123 #[.func (.func 106) #[] #[.pointer (some ⟨w.heap.size,0,none⟩),.pointer (some ⟨w.heap.size+1+1,0,none⟩),.pointer (some ⟨w.heap.size+1,0,none⟩)]]:=by
  have h9:=aC.new ((w.alloc (.cells #[.slice A n c,.slice B m d] 26)).alloc (.cells #[.int .i64 0] 3)) 123 #[.func (.func 106) #[] #[.pointer (some ⟨w.heap.size,0,none⟩),.pointer (some ⟨w.heap.size+1+1,0,none⟩),.pointer (some ⟨w.heap.size+1,0,none⟩)]]
  rwa [show ((w.alloc (.cells #[.slice A n c,.slice B m d] 26)).alloc (.cells #[.int .i64 0] 3)).heap.size=w.heap.size+1+1 by simp] at h9
 have Yx:=O (show vU w _ w.heap.size (w.heap.size+1) (w.heap.size+1+1) (.slice A n c) (.slice B m d) ((0:Nat):Int) from ⟨L,M,E,ah (ah (ah (Below.refl _ _) (aaJ _)) (by simp)) (by simp;omega),by omega⟩);clear L E M;go_loopw [11] (fun j wr=>∃ (g y:Nat),g≤m∧j=.int .i64 g∧y≤1000000∧Hid (vU w wr w.heap.size (w.heap.size+1) (w.heap.size+1+1) (.slice A n c) (.slice B m d) (y:Int))∧Hid ((a.drop g).foldl (nR T) (some y)=a.foldl (nR T) (some 0))) (fun j _=>m - (intOf j).toNat)
 case atStart=>exact⟨0,0,aaL _,rfl,by omega,Yx,O rfl⟩
 case round =>
  clear Yx;obtain⟨wo,rfl⟩:∃ wo:World,wo=wr:=⟨_,rfl⟩;obtain⟨g,y,hj,rfl,hy,l,R⟩:=hrel;have t0:=l.o.tree.cell 0;have s0:=l.o.self.cell 0;have y0:=l.o.next.cell 0;by_cases r:g < m
  ·obtain⟨q,Z⟩:∃ q,a[g]? = some q:=⟨_,aaD (by rw [← Q.o];exact r)⟩;obtain⟨bi,oi,rfl,Y,J⟩:=HT.o.items.ex (by rw [← Q.o];omega);have cj:=(l.o.low.cell (p:=⟨bi,oi+g,none⟩) Y).trans (J g q Z)
   have F:=O (show a.drop g=q :: a.drop (g+1) by
    rw [aaX (by rw [← Q.o];exact r),(aaE.1 Z).2])
   have X:=O (show (a.drop (g+1)).foldl (nR T) (if Mist.within q y ((n:Int) - 1)=true then Mist.walk T (q.toNat+1) q.toNat true y else none)=a.foldl (nR T) (some 0) by
    have h9:=R.o;rw [F.o,List.foldl_cons] at h9
    rw [← h9,nR,Option.bind_some,Nh.o])
   clear J Z F R;have j0:(0:Int)≤(g:Int):=by omega
   have j1:(g:Int) < (m:Int):=by omega
   have j2:decide (g < m)=true:=aaU r
   cases K:Mist.within q y ((n:Int) - 1)
   ·have I:=O K;clear K;have H:=O (show Mist.ordered T=false from Cx (by rw [C.o,← X.o,I.o,if_neg (by simp)];exact Im T _));go_wp2_with fail;refine (dU q y _ false I.o _).mono ?_;rintro e w2⟨rfl,rfl⟩;go_wp2_with fail;go_ret;exact⟨bD H.o.symm,l.o.low⟩
   ·have E:(y:Int)≤q∧q≤(n:Int) - 1:=by simpa [Mist.within] using K
    have I:=O K;clear K;obtain⟨v,rfl⟩:∃ v:Nat,q=(v:Int):=⟨q.toNat,by omega⟩;obtain⟨b,o,rfl,hN⟩:=HT.o.nodes (by rw [← pF.o];omega);have HC:=O (walk_any xs a b o c m d n _ w hN pF.o hn U.o V.o w.heap.size (w.heap.size+1) (w.heap.size+1+1) (v+1) v 1 true y wo (by omega) (by omega) (by omega) (by omega) rfl hy l.o)
    have G:=O (show (a.drop (g+1)).foldl (nR T) (Mist.walk T (v+1) v true y)=a.foldl (nR T) (some 0) by
     have h9:=X.o;rw [I.o,if_pos rfl,aaQ] at h9
     exact h9)
    clear hN X;go_wp2_with fail;refine (dU (v:Int) y _ true I.o _).mono ?_;rintro e w2⟨rfl,rfl⟩;go_wp2_with fail;refine HC.o.mono ?_;rintro e w3⟨t,f⟩;rw [← F9.o] at f
    cases h:Mist.walk T (v+1) v true y with
    | none =>
     rw [h] at f
     obtain⟨rfl,z,N⟩:=f;have H:=O (show Mist.ordered T=false from Cx (by rw [C.o,← G.o,h];exact Im T _));have W:=O (l.o.mv t N);clear h N t;go_wp2_with fail;go_ret;exact⟨bD H.o.symm,W.o.low⟩
    | some z =>
     rw [h] at f
     obtain⟨rfl,N⟩:=f;have hzv:=Qd h;have W:=O (l.o.mv t N);have S:=O (by have h9:=G.o;rw [h] at h9;exact h9);have Z5:z≤1000000:=by omega
     clear h N t hzv;go_wp2_with fail;exact⟨⟨g+1,z,by omega,by go_num,Z5,W,S⟩,by simp [intOf];omega⟩
  ·have H:=O (show Mist.ordered T=(y == n) by
    have h9:=R.o;rw [List.drop_of_length_le (by rw [← Q.o];omega)] at h9
    rw [MJ (y:=y) (by rw [C.o];exact h9.symm),Nh.o])
   have j2:decide (g < m)=false:=aaV r;go_wp2_with fail;go_ret
   refine⟨bD ?_,l.o.low⟩
   rw [H.o,aaI];simp
   omega
end Go.Proofs.YthepmkjggfijoaaGreatDoor
namespace Go.Proofs.YthepmkjggfijoaaGreatDoor
open Go.RowKit Mist
open Go.WideShapes Go.Maps
def Hl:Lit→Bool
 | .int .i64 _=>true
 | _=>false
def l5 (D:DataW Unit)(P:Int→Bool):Prop:=∃ es,D=.map es∧(es.any fun p=>!Hl p.1)=false∧∀ j:Int,Maps.has D (.int .i64 j)=P j
theorem l5.empty:l5 (.map []) (fun _=>false):=⟨[],rfl,rfl,fun _=>rfl⟩
theorem l5.imp {D:DataW Unit}{P Q:Int→Bool}(h:l5 D P)(e:∀ j,P j=Q j):l5 D Q:=by
 obtain⟨a,rfl,h1,h2⟩:=h;exact⟨a,rfl,h1,fun j=>(h2 j).trans (e j)⟩
theorem mU {a:Type}{f g:a→Bool}:∀ l:List a,l.any f=false→(l.filter g).any f=false
 | [],_=>rfl
 | y :: r,h=>by
  rw [List.any_cons] at h
  have h1:f y=false:=by cases b:f y <;> simp_all
  have h2:r.any f=false:=by cases b:r.any f <;> simp_all
  rw [List.filter_cons];split
  ·rw [List.any_cons,h1,mU r h2];rfl
  ·exact mU r h2
theorem l5.put {D:DataW Unit}{P:Int→Bool}(h:l5 D P)(k:Int)(d:DataW Unit):l5 (D.put (.int .i64 k) d) (fun j=>P j || j == k):=by
 obtain⟨b,rfl,h1,h2⟩:=h
 refine⟨DataW.insert (.int .i64 k,d) (b.filter fun p=>!p.1.sameKey (.int .i64 k)),rfl,?_,fun j=>?_⟩
 ·rw [any_insert,mU b h1];rfl
 ·by_cases e:j=k
  ·subst e;rw [has_put_same ⟨_,rfl⟩ (by trivial)];simp
  ·rw [has_put_other (by intro a;injection a with _ a;exact e a),h2 j];simp [e]
theorem l5.del {D:DataW Unit}{P:Int→Bool}(h:l5 D P)(k:Int):l5 (D.del (.int .i64 k)) (fun j=>P j && !(j == k)):=by
 obtain⟨b,rfl,h1,h2⟩:=h
 refine⟨b.filter fun p=>!p.1.sameKey (.int .i64 k),rfl,mU b h1,fun j=>?_⟩
 by_cases e:j=k
 ·subst e;rw [has_del_same];simp
 ·rw [has_del_other (by intro a;injection a with _ a;exact e a),h2 j];simp [e]
theorem l5.zero {D:DataW Unit}{P:Int→Bool}(h:l5 D P):Maps.size D=0↔∀ j,P j=false:=by
 obtain⟨c,rfl,h1,h2⟩:=h;constructor
 ·intro h0 j
  have:c=[]:=List.eq_nil_of_length_eq_zero h0
  subst this;rw [← h2 j];rfl
 ·intro h0
  cases c with
  | nil=>rfl
  | cons p r =>
   exfalso
   rw [List.any_cons] at h1
   have b:Hl p.1=true:=by cases e:Hl p.1 <;> simp_all
   obtain⟨l,d⟩:=p;simp only at b
   cases l with
   | int q a =>
    cases q <;> simp [Hl] at b
    have:=h2 a
    rw [h0 a,has_eq] at this
    simp [WideAt.sameKey_self (a:=Lit.int .i64 a) (by trivial)] at this
   | _=>simp [Hl] at b
def Fp (T:Tr)(k:Nat)(j:Int):Bool:=decide (0≤j∧j < (k:Int)) && ((nd T j.toNat).kind == 1 && decide ((nd T j.toNat).n < 0))
theorem Ec {T:Tr}{k:Nat}(b:Bool)(a:((nd T k).kind == 1 && decide ((nd T k).n < 0))=b)(j:Int):Fp T (k+1) j=(Fp T k j || (b && j == (k:Int))):=by
 unfold Fp;by_cases e:j=(k:Int)
 ·subst e;rw [aaQ,a];have h1:decide (0≤(k:Int)∧(k:Int) < ((k+1:Nat):Int))=true:=aaU (by omega);have h2:decide (0≤(k:Int)∧(k:Int) < (k:Int))=false:=aaV (by omega);rw [h1,h2];simp
 ·have h1:decide (0≤j∧j < ((k+1:Nat):Int))=decide (0≤j∧j < (k:Int)):=by
   congr 1;apply propext;omega
  rw [h1];simp [e]
def B_ (T:Tr)(l:List Int)(j:Int):Bool:=l.any fun c=>(nd T c.toNat).kind == 40 && (nd T c.toNat).kids.contains j
theorem Kk (T:Tr)(l:List Int)(c j:Int):B_ T (l ++ [c]) j=(B_ T l j || ((nd T c.toNat).kind == 40 && (nd T c.toNat).kids.contains j)):=by
 simp [B_]
theorem Ta (T:Tr):Mist.signed T=true↔∀ j,(Fp T T.nodes.length j && !B_ T T.items j)=false:=by
 unfold Mist.signed;rw [aaR];constructor
 ·intro h j;by_cases a:0≤j∧j < (T.nodes.length:Int)
  ·have:=h j.toNat (List.mem_range.2 (by omega))
   have e:((j.toNat:Nat):Int)=j:=by omega
   rw [e] at this
   unfold Fp B_
   revert this
   generalize ((nd T j.toNat).kind == 1 && decide ((nd T j.toNat).n < 0))=x
   generalize (T.items.any fun c=>(nd T c.toNat).kind == 40 && (nd T c.toNat).kids.contains j)=y
   intro this
   cases x <;> cases y <;> simp_all
  ·unfold Fp;rw [aaV a];simp
 ·intro h i hi;have hi:=List.mem_range.1 hi
  have:=h (i:Int)
  unfold Fp B_ at this
  rw [aaU (by omega),aaQ] at this
  revert this
  generalize ((nd T i).kind == 1 && decide ((nd T i).n < 0))=x
  generalize (T.items.any fun c=>(nd T c.toNat).kind == 40 && (nd T c.toNat).kids.contains (i:Int))=y
  intro this
  cases x <;> cases y <;> simp_all
theorem Ur:Keyed Tryz.prog 3:=int_keyed Tryz.underlying3
theorem wf_i64 {j:Int}(h:jq≤j∧j≤gq):(Lit.int .i64 j).wf=true:=WalkArith.wf_i64 (by unfold jq gq at h;omega)
theorem S_ (A B:Option Addr)(c d:Nat)(xs:List NV)(a:List Int)(w:World)(hT:mq w A B xs a)(hR:xO (aA xs))(hn:xs.length≤100000)(hm:a.length≤1000000)(hI:∀ q ∈ a,0≤q∧q < (xs.length:Int)) :
  Calls Tryz.prog 63 #[.agg #[.slice A xs.length c,.slice B a.length d]] w fun e w'=>e=.returned (.bool (Mist.signed ⟨aA xs,a⟩))∧Below w.heap.size w w':=by
 obtain⟨n,M⟩:∃ n,n=xs.length:=⟨_,rfl⟩;obtain⟨m,R⟩:∃ m,m=a.length:=⟨_,rfl⟩;rw [← M] at hn hI ⊢
 rw [← R] at hm ⊢
 obtain⟨T,ni⟩:∃ T:Tr,T=⟨aA xs,a⟩:=⟨_,rfl⟩;rw [← ni];have Nh:=O (show T.nodes.length=n by rw [ni,M];exact aD xs);have HTI:=O (show T.items=a by rw [ni]);have F9:=O ni;clear ni;have pF:=O M;clear M;have U1:=O R;clear R;have HT:=O hT;clear hT;have HII:=O hI;clear hI;have HRR:=O hR;clear hR;have hmk:=@run_makeMap Tryz.prog;go_in
 go_wp2_with fail;have eH:=O (ah (ah (Below.refl w.heap.size w) (aaJ _) (o:=.cells #[.slice A n c,.slice B m d] 26)) (by simp) (o:=.map #[] 0));have X:=O ((aC.new w 26 #[.slice A n c,.slice B m d]).alloc (.map #[] 0))
 have Yx:=O (by
  have h9:=World.ownsMap_made (w.alloc (.cells #[.slice A n c,.slice B m d] 26)) Tryz.prog 3 (plainElem (H:=Unit) Tryz.prog 4);rw [show (w.alloc (.cells #[.slice A n c,.slice B m d] 26)).heap.size=w.heap.size+1 by simp] at h9
  exact h9)
 clear hmk;go_loopw [14] (fun i wr=>∃ (k:Nat) (D:DataW Unit),k≤n∧i=.int .i64 k∧Hid (Below w.heap.size w wr)∧Hid (aC wr w.heap.size 26 #[.slice A n c,.slice B m d])∧wr.ownsMap Tryz.prog 3 (plainElem Tryz.prog 4) (w.heap.size+1) k D∧Hid (l5 D (Fp T k))) (fun i _=>n - (intOf i).toNat)
 case atStart=>exact⟨0,.map [],aaL _,rfl,eH,X,Yx.o,O (l5.empty.imp (fun j=>by unfold Fp;rw [aaV (by omega)];rfl))⟩
 case round =>
  clear eH X Yx;obtain⟨wo,rfl⟩:∃ wo:World,wo=wr:=⟨_,rfl⟩;obtain⟨k,D,hk,rfl,g,t,h,F⟩:=hrel;have f:=O h;clear h;have t0:=t.o.cell 0;have t1:=t.o.cell 1;have htl:=t.o.lt;by_cases Q:k < n
  ·obtain⟨b,o,rfl,r⟩:=HT.o.nodes (by rw [← pF.o];omega);obtain⟨x,y⟩:∃ x,xs[k]? = some x:=jD (by rw [← pF.o];exact Q);have V:=O (show nd T k=x.1 by rw [F9.o];exact l7 a y);have c0:=(g.o.cell (p:=⟨b,o+k * 5,none⟩) r.lt).trans (r.c0 k x y);have c1:=(g.o.cell (p:=⟨b,o+k * 5+1,none⟩) r.lt).trans (r.c1 k x y);have c2:=(g.o.cell (p:=⟨b,o+k * 5+2,none⟩) r.lt).trans (r.c2 k x y);have c3:=(g.o.cell (p:=⟨b,o+k * 5+3,none⟩) r.lt).trans (r.c3 k x y);have c4:=(g.o.cell (p:=⟨b,o+k * 5+4,none⟩) r.lt).trans (r.c4 k x y);obtain⟨Ak,ck,J,_,_⟩:=r.kid y;rw [J] at c3
   clear r y J;have i1:(0:Int)≤(k:Int):=by omega
   have i2:(k:Int) < (n:Int):=by omega
   have i3:decide (k < n)=true:=aaU Q;have I:keyOf Tryz.prog 3 (.int .i64 (k:Int))=some (.int .i64 (k:Int)):=keyOf_int_mk Tryz.underlying3 (wf_i64 (by unfold jq gq;omega));by_cases h1:x.1.kind=1
   ·have e1:((x.1.kind:Int) == 1)=true:=by rw [h1];rfl
    by_cases h2:x.1.n < 0
    ·have e2:decide (x.1.n < 0)=true:=aaU h2;have Y:=O (Ec (T:=T) (k:=k) true (by rw [V.o];simp [h1,h2]));clear h1 h2
     go_wp2_with (at_mapUpdate
                  refine wpList_mapUpdate_own _ rfl _ _ _ 124 rfl 3 4 Ur Tryz.underlying124 _ (w.heap.size+1) k D rfl (f.o.alloc _) (by unfold maxLen;omega) _ _ _ rfl rfl I _ [] (plainElem_bool Tryz.underlying4 true) ?_;intro w1 v C)
     refine⟨⟨k+1,_,by omega,by go_num,O ?_,O ?_,v,O ?_⟩,by simp [intOf];omega⟩
     ·exact (ah g.o g.o.size).grown C (by simp;omega) (fun b Z=>by injection Z with Z;omega)
     ·exact (t.o.alloc _).grown C (by simp)
     ·exact (F.o.put (k:Int) _).imp (fun j=>by rw [Y.o j];simp)
    ·have e2:decide (x.1.n < 0)=false:=aaV h2;have Y:=O (Ec (T:=T) (k:=k) false (by rw [V.o];simp [h2]));clear h1 h2;go_wp2_with fail;exact⟨⟨k+1,D,by omega,by go_num,O (ah g.o g.o.size),O (t.o.alloc _),(f.o.alloc _).mono (by omega),O (F.o.imp (fun j=>by rw [Y.o j];simp))⟩,by simp [intOf];omega⟩
   ·have e1:((x.1.kind:Int) == 1)=false:=by rw [aaF];omega
    have Y:=O (Ec (T:=T) (k:=k) false (by rw [V.o];simp [h1]));clear h1;go_wp2_with fail;exact⟨⟨k+1,D,by omega,by go_num,O (ah g.o g.o.size),O (t.o.alloc _),(f.o.alloc _).mono (by omega),O (F.o.imp (fun j=>by rw [Y.o j];simp))⟩,by simp [intOf];omega⟩
  ·obtain rfl:k=n:=by omega
   have i3:decide (k < k)=false:=aaV Q;go_wp2_with fail;go_loopw [33] (fun i wr=>∃ (l:Nat) (D:DataW Unit),l≤m∧i=.int .i64 l∧Hid (Below w.heap.size w wr)∧Hid (aC wr w.heap.size 26 #[.slice A k c,.slice B m d])∧wr.ownsMap Tryz.prog 3 (plainElem Tryz.prog 4) (w.heap.size+1) k D∧Hid (l5 D (fun j=>Fp T k j && !B_ T (a.take l) j))) (fun i _=>m - (intOf i).toNat)
   case atStart=>exact⟨0,D,aaL _,rfl,g,t,f.o,O (F.o.imp (fun j=>by simp [B_]))⟩
   case round =>
    clear g t f F;obtain⟨wp,rfl⟩:∃ wp:World,wp=wr:=⟨_,rfl⟩;obtain⟨l,D2,hj,rfl,g,t,h,F⟩:=hrel;have f:=O h;clear h;have t0:=t.o.cell 0;have t1:=t.o.cell 1;have htl:=t.o.lt;by_cases P:l < m
    ·obtain⟨q,hq⟩:∃ q,a[l]? = some q:=⟨_,aaD (by rw [← U1.o];exact P)⟩;have hqb:=HII.o q (aaM hq);obtain⟨G,rfl⟩:∃ G:Nat,q=(G:Int):=⟨q.toNat,by omega⟩;obtain⟨bi,oi,rfl,hbi,hci⟩:=HT.o.items.ex (by rw [← U1.o];omega);have cj:=(g.o.cell (p:=⟨bi,oi+l,none⟩) hbi).trans (hci l G hq);have W:=O (show a.take (l+1)=a.take l ++ [(G:Int)] by rw [List.take_add_one,hq];rfl);clear hci hq;obtain⟨b,o,rfl,r⟩:=HT.o.nodes (by rw [← pF.o];omega);obtain⟨x,y⟩:∃ x,xs[G]? = some x:=jD (by rw [← pF.o];omega);have V:=O (show nd T G=x.1 by rw [F9.o];exact l7 a y);have c0:=(g.o.cell (p:=⟨b,o+G * 5,none⟩) r.lt).trans (r.c0 G x y);have c3:=(g.o.cell (p:=⟨b,o+G * 5+3,none⟩) r.lt).trans (r.c3 G x y);obtain⟨Ak,ck,J,hxl,hxk⟩:=r.kid y;have HKR:=O (HRR.o x.1 (List.mem_map_of_mem (aaM y)));rw [J] at c3
     have tK:=O hxk;clear r y J hxk;obtain⟨N,S⟩:∃ N,N=x.1.kids.length:=⟨_,rfl⟩;rw [← S] at c3 hxl
     have nu:=O S;clear S;have i1:(0:Int)≤(G:Int):=by omega
     have i2:(G:Int) < (k:Int):=by omega
     have j0:(0:Int)≤(l:Int):=by omega
     have j1:(l:Int) < (m:Int):=by omega
     have j2:decide (l < m)=true:=aaU P;by_cases rT:x.1.kind=40
     ·have e1:((x.1.kind:Int) != 40)=false:=by rw [rT];rfl
      have Lh:=O (show ∀ j,B_ T (a.take (l+1)) j=(B_ T (a.take l) j || x.1.kids.contains j) from fun j=>by
       rw [W.o,Kk,aaQ,V.o,rT];simp)
      clear rT;go_wp2_with fail;go_loopw [51] (fun i wr=>∃ (u:Nat) (D:DataW Unit),u≤N∧i=.int .i64 u∧Hid (Below w.heap.size w wr)∧Hid (aC wr w.heap.size 26 #[.slice (some ⟨b,o,none⟩) k c,.slice (some ⟨bi,oi,none⟩) m d])∧wr.ownsMap Tryz.prog 3 (plainElem Tryz.prog 4) (w.heap.size+1) k D∧Hid (l5 D (fun j=>(Fp T k j && !B_ T (a.take l) j) && !(x.1.kids.take u).contains j))) (fun i _=>N - (intOf i).toNat)
      case atStart=>exact⟨0,D2,aaL _,rfl,g,t,f.o,O (F.o.imp (fun j=>by simp))⟩
      case round =>
       clear g t f F;obtain⟨wq,rfl⟩:∃ wq:World,wq=wr:=⟨_,rfl⟩;obtain⟨u,D3,hz,rfl,g,t,h,F⟩:=hrel;have f:=O h;clear h;by_cases U:u < N
       ·obtain⟨K,L⟩:∃ K,x.1.kids[u]? = some K:=⟨_,aaD (by rw [← nu.o];exact U)⟩;obtain⟨bk,ok,rfl,hbk,hck⟩:=tK.o.ex (by rw [← nu.o];omega);have cz:=(g.o.cell (p:=⟨bk,ok+u,none⟩) hbk).trans (hck u K L);have HZN:=O (show x.1.kids.take (u+1)=x.1.kids.take u ++ [K] by rw [List.take_add_one,L];rfl);have I:keyOf Tryz.prog 3 (.int .i64 K)=some (.int .i64 K):=keyOf_int_mk Tryz.underlying3 (wf_i64 (HKR.o.kids K (aaM L)));clear hck L;have z0:(0:Int)≤(u:Int):=by omega
        have z1:(u:Int) < (N:Int):=by omega
        have z2:decide (u < N)=true:=aaU U
        go_wp2_with (at_delete
                     refine wpList_delete_own _ rfl _ _ 124 3 rfl 4 Ur Tryz.underlying124 _ (w.heap.size+1) k D3 rfl f.o _ _ rfl I ?_;intro w1 v E)
        refine⟨⟨u+1,_,by omega,by go_num,O ?_,O ?_,v,O ?_⟩,by simp [intOf];omega⟩
        ·exact g.o.grown E.grown g.o.size (fun b Z=>by injection Z with Z;omega)
        ·exact t.o.grown E.grown (by simp)
        ·refine (F.o.del K).imp (fun j=>?_);rw [HZN.o];have h9:(x.1.kids.take u ++ [K]).contains j=((x.1.kids.take u).contains j || j == K):=by rw [aaI];simp
         rw [h9,Bool.not_or,Bool.and_assoc]
       ·have HKE:=O (show l5 D3 (fun j=>Fp T k j && !B_ T (a.take (l+1)) j) from F.o.imp (fun j=>by
         rw [show x.1.kids.take u=x.1.kids from aaN (by rw [← nu.o];omega),Lh.o j,Bool.not_or,Bool.and_assoc]))
        have z2:decide (u < N)=false:=aaV U;go_wp2_with fail;exact⟨⟨l+1,D3,by omega,by go_num,g,t,f.o,HKE⟩,by simp [intOf];omega⟩
     ·have e1:((x.1.kind:Int) != 40)=true:=by rw [bne_iff_ne];omega
      have Lh:=O (show ∀ j,B_ T (a.take (l+1)) j=B_ T (a.take l) j from fun j=>by
       rw [W.o,Kk,aaQ,V.o];simp [rT])
      clear rT;go_wp2_with fail;exact⟨⟨l+1,D2,by omega,by go_num,g,t,f.o,O (F.o.imp (fun j=>by rw [Lh.o j]))⟩,by simp [intOf];omega⟩
    ·have j2:decide (l < m)=false:=aaV P
     have HSG:=O (show Mist.signed T=decide (Maps.size D2=0) by
      have h9:=F.o;rw [aaN (by rw [← U1.o];omega),← HTI.o] at h9
      rw [aaI,Ta,decide_eq_true_eq,h9.zero,Nh.o])
     go_wp2_with (at_len
                  refine wpList_len_own _ rfl _ 124 rfl 3 4 Tryz.underlying124 _ (w.heap.size+1) k D2 rfl f.o ?_)
     go_ret
     refine⟨bD ?_,g.o⟩
     rw [HSG.o,aaI];simp
end Go.Proofs.YthepmkjggfijoaaGreatDoor
namespace Go.Proofs.YthepmkjggfijoaaGreatDoor
open Go.RowKit Mist
attribute [local go_sem] aj aH aS aB ak
theorem Ao (c d f g:Value)(b:Option Addr)(a h:Nat)(j:a≤1000000)(w:World):Calls Tryz.prog 140 #[.agg #[c,d,f,.slice b a h,g]] w fun e i=>e=.returned (.int .i64 ((a:Int) - 2))∧Below w.heap.size w i:=by
 go_in
 go_wp2;go_ret;exact⟨rfl,ah (Below.refl _ _) (aaJ _)⟩
def nJ (T:Tr)(x:Nd):Prop:=x.kind=40→∃ k0 k1:Nat,x.kids=[(k0:Int),(k1:Int)]∧k0 < T.nodes.length∧k1 < T.nodes.length∧(-9999≤(nd T k0).n∧(nd T k0).n≤9999)∧(-9999≤(nd T k1).n∧(nd T k1).n≤9999)
theorem sized_41 (T:Tr)(A:Option Addr)(n c:Nat)(B:Option Addr)(m d:Nat)(x:Nd)(g:Option Addr)(f h:Nat)(b:f=x.kids.length)(y:f≤1000000)(w:World)(a:x.kind=41) :
  Calls Tryz.prog 97 #[.agg #[.slice A n c,.slice B m d],.agg #[.int .u8 x.kind,.string (aM x.text),.int .i64 x.n,.slice g f h,.int .i64 x.at_]] w fun e v=>e=.returned (.bool (Mist.sized T x))∧Below w.heap.size w v:=by
 have q:((x.kind:Int) == 40)=false:=by rw [a];rfl
 have r:((x.kind:Int) == 41)=true:=by rw [a];rfl
 have t:((x.kind:Int) == 42)=false:=by rw [a];rfl
 have l:((x.kind:Int) == 33)=false:=by rw [a];rfl
 have k:((x.kind:Int) == 26)=false:=by rw [a];rfl
 have u:((x.kind:Int) == 46)=false:=by rw [a];rfl
 have j:=O (show Mist.sized T x=decide (f≤6) by simp [Mist.sized,a,b]);clear a b;have i:=O (ah (ah (Below.refl w.heap.size w) (aaJ _) (o:=.cells #[.slice A n c,.slice B m d] 26)) (by simp) (o:=.cells #[.int .u8 x.kind,.string (aM x.text),.int .i64 x.n,.slice g f h,.int .i64 x.at_] 50));go_in
 go_wp2;go_ret;exact⟨bD (by rw [j.o];rw [aaI];simp;omega),i.o⟩
theorem sized_26 (T:Tr)(A:Option Addr)(n c:Nat)(B:Option Addr)(m d:Nat)(x:Nd)(g:Option Addr)(f h:Nat)(b:f=x.kids.length)(y:f≤1000000)(w:World)(a:x.kind=26) :
  Calls Tryz.prog 97 #[.agg #[.slice A n c,.slice B m d],.agg #[.int .u8 x.kind,.string (aM x.text),.int .i64 x.n,.slice g f h,.int .i64 x.at_]] w fun e v=>e=.returned (.bool (Mist.sized T x))∧Below w.heap.size w v:=by
 have q:((x.kind:Int) == 40)=false:=by rw [a];rfl
 have r:((x.kind:Int) == 41)=false:=by rw [a];rfl
 have t:((x.kind:Int) == 42)=false:=by rw [a];rfl
 have l:((x.kind:Int) == 33)=false:=by rw [a];rfl
 have k:((x.kind:Int) == 26)=true:=by rw [a];rfl
 have u:((x.kind:Int) == 46)=false:=by rw [a];rfl
 have j:=O (show Mist.sized T x=decide (f≤6) by simp [Mist.sized,a,b]);clear a b;have i:=O (ah (ah (Below.refl w.heap.size w) (aaJ _) (o:=.cells #[.slice A n c,.slice B m d] 26)) (by simp) (o:=.cells #[.int .u8 x.kind,.string (aM x.text),.int .i64 x.n,.slice g f h,.int .i64 x.at_] 50));go_in
 go_wp2;go_ret;exact⟨bD (by rw [j.o];rw [aaI];simp;omega),i.o⟩
theorem sized_33 (T:Tr)(A:Option Addr)(n c:Nat)(B:Option Addr)(m d:Nat)(x:Nd)(g:Option Addr)(f h:Nat)(b:f=x.kids.length)(y:f≤1000000)(w:World)(a:x.kind=33) :
  Calls Tryz.prog 97 #[.agg #[.slice A n c,.slice B m d],.agg #[.int .u8 x.kind,.string (aM x.text),.int .i64 x.n,.slice g f h,.int .i64 x.at_]] w fun e v=>e=.returned (.bool (Mist.sized T x))∧Below w.heap.size w v:=by
 have q:((x.kind:Int) == 40)=false:=by rw [a];rfl
 have r:((x.kind:Int) == 41)=false:=by rw [a];rfl
 have t:((x.kind:Int) == 42)=false:=by rw [a];rfl
 have l:((x.kind:Int) == 33)=true:=by rw [a];rfl
 have k:((x.kind:Int) == 26)=false:=by rw [a];rfl
 have u:((x.kind:Int) == 46)=false:=by rw [a];rfl
 have j:=O (show Mist.sized T x=Mist.within x.n 1 6 by simp [Mist.sized,a,b]);clear a b;have i:=O (ah (ah (Below.refl w.heap.size w) (aaJ _) (o:=.cells #[.slice A n c,.slice B m d] 26)) (by simp) (o:=.cells #[.int .u8 x.kind,.string (aM x.text),.int .i64 x.n,.slice g f h,.int .i64 x.at_] 50));go_in
 go_wp2_with fail;refine (dU x.n 1 6 _ rfl _).mono ?_;rintro e C⟨rfl,rfl⟩;go_wp2_with fail;go_ret;exact⟨bD j.o.symm,i.o⟩
theorem sized_46 (T:Tr)(A:Option Addr)(n c:Nat)(B:Option Addr)(m d:Nat)(x:Nd)(h:Option Addr)(f k:Nat)(b:f=x.kids.length)(D:f≤1000000)(w:World)(a:x.kind=46) :
  Calls Tryz.prog 97 #[.agg #[.slice A n c,.slice B m d],.agg #[.int .u8 x.kind,.string (aM x.text),.int .i64 x.n,.slice h f k,.int .i64 x.at_]] w fun e C=>e=.returned (.bool (Mist.sized T x))∧Below w.heap.size w C:=by
 have t:((x.kind:Int) == 40)=false:=by rw [a];rfl
 have u:((x.kind:Int) == 41)=false:=by rw [a];rfl
 have v:((x.kind:Int) == 42)=false:=by rw [a];rfl
 have r:((x.kind:Int) == 33)=false:=by rw [a];rfl
 have q:((x.kind:Int) == 26)=false:=by rw [a];rfl
 have y:((x.kind:Int) == 46)=true:=by rw [a];rfl
 have j:=O (show Mist.sized T x=(!(x.n == 8) || decide (f≤4)) by simp [Mist.sized,a,b]);clear a b;have i:=O (ah (ah (Below.refl w.heap.size w) (aaJ _) (o:=.cells #[.slice A n c,.slice B m d] 26)) (by simp) (o:=.cells #[.int .u8 x.kind,.string (aM x.text),.int .i64 x.n,.slice h f k,.int .i64 x.at_] 50));by_cases h8:x.n=8
 ·have l:(x.n != 8)=false:=by simp [h8]
  have g:=O (show (x.n == 8)=true by simpa using h8);clear h8;go_in
  go_wp2;go_ret;exact⟨bD (by rw [j.o,g.o];rw [aaI];simp;omega),i.o⟩
 ·have l:(x.n != 8)=true:=by simpa using h8
  have g:=O (show (x.n == 8)=false by simpa using h8);clear h8;go_in
  go_wp2;go_ret;exact⟨bD (by rw [j.o,g.o];rfl),i.o⟩
theorem sized_42 (T:Tr)(A:Option Addr)(n c:Nat)(B:Option Addr)(m d:Nat)(x:Nd)(j:Option Addr)(a l:Nat)(q:a=x.kids.length)(D:a≤1000000)(w:World)(i:x.kind=42) :
  Calls Tryz.prog 97 #[.agg #[.slice A n c,.slice B m d],.agg #[.int .u8 x.kind,.string (aM x.text),.int .i64 x.n,.slice j a l,.int .i64 x.at_]] w fun e L=>e=.returned (.bool (Mist.sized T x))∧Below w.heap.size w L:=by
 have G:((x.kind:Int) == 40)=false:=by rw [i];rfl
 have H:((x.kind:Int) == 41)=false:=by rw [i];rfl
 have I:((x.kind:Int) == 42)=true:=by rw [i];rfl
 have F:((x.kind:Int) == 33)=false:=by rw [i];rfl
 have E:((x.kind:Int) == 26)=false:=by rw [i];rfl
 have J:((x.kind:Int) == 46)=false:=by rw [i];rfl
 have y:=O (show Mist.sized T x=(decide ((a:Int) - 2≤4) && decide (x.n≤8)) by simp [Mist.sized,i,q]);clear i q;have v:=O (ah (ah (Below.refl w.heap.size w) (aaJ _) (o:=.cells #[.slice A n c,.slice B m d] 26)) (by simp) (o:=.cells #[.int .u8 x.kind,.string (aM x.text),.int .i64 x.n,.slice j a l,.int .i64 x.at_] 50));by_cases h6:(a:Int) - 2≤4
 ·have r:decide ((a:Int) - 2≤4)=true:=aaU h6;by_cases h8:x.n≤8
  ·have C:decide (x.n≤8)=true:=aaU h8;have f:=O (show Mist.sized T x=true by rw [y.o,r,C];rfl);go_in
   go_wp2_with fail;refine (Ao _ _ _ _ j a l D _).mono ?_;rintro e t⟨rfl,g⟩;have u:=O (show aC t (w.heap.size+1) 50 #[.int .u8 x.kind,.string (aM x.text),.int .i64 x.n,.slice j a l,.int .i64 x.at_] from aC.below (by repeat (first|(with_reducible exact aC.new _ _ _)|(refine (show ∀ {W:World} {cs:Array Value} {T:TypeId} {k:Nat},W.heap.size=k→aC (W.alloc (.cells cs T)) k T cs from fun h=>by subst h;exact aC.new _ _ _) (by simp)))) g (by simp));have K:=u.o.cell 2;have b:=O (v.o.trans (g.mono (by simp;omega)));clear g;go_wp2_with fail;go_ret;exact⟨bD f.o.symm,b.o⟩
  ·have C:decide (x.n≤8)=false:=aaV h8;have f:=O (show Mist.sized T x=false by rw [y.o,r,C];rfl);go_in
   go_wp2_with fail;refine (Ao _ _ _ _ j a l D _).mono ?_;rintro e t⟨rfl,g⟩;have u:=O (show aC t (w.heap.size+1) 50 #[.int .u8 x.kind,.string (aM x.text),.int .i64 x.n,.slice j a l,.int .i64 x.at_] from aC.below (by repeat (first|(with_reducible exact aC.new _ _ _)|(refine (show ∀ {W:World} {cs:Array Value} {T:TypeId} {k:Nat},W.heap.size=k→aC (W.alloc (.cells cs T)) k T cs from fun h=>by subst h;exact aC.new _ _ _) (by simp)))) g (by simp));have K:=u.o.cell 2;have b:=O (v.o.trans (g.mono (by simp;omega)));clear g;go_wp2_with fail;go_ret;exact⟨bD f.o.symm,b.o⟩
 ·have r:decide ((a:Int) - 2≤4)=false:=aaV h6;have f:=O (show Mist.sized T x=false by rw [y.o,r];rfl);go_in
  go_wp2_with fail;refine (Ao _ _ _ _ j a l D _).mono ?_;rintro e t⟨rfl,g⟩;have b:=O (v.o.trans (g.mono (by simp;omega)));clear g;go_wp2_with fail;go_ret;exact⟨bD f.o.symm,b.o⟩
theorem PD (T:Tr)(A:Option Addr)(n c:Nat)(B:Option Addr)(m d:Nat)(x:Nd)(f:Option Addr)(a g:Nat)(b:a=x.kids.length)(y:a≤1000000)(w:World)(h:¬ x.kind=40)(h41:¬ x.kind=41)(h42:¬ x.kind=42)(h33:¬ x.kind=33)(h26:¬ x.kind=26)(h46:¬ x.kind=46) :
  Calls Tryz.prog 97 #[.agg #[.slice A n c,.slice B m d],.agg #[.int .u8 x.kind,.string (aM x.text),.int .i64 x.n,.slice f a g,.int .i64 x.at_]] w fun e v=>e=.returned (.bool (Mist.sized T x))∧Below w.heap.size w v:=by
 have q:((x.kind:Int) == 40)=false:=by rw [aaF];omega
 have r:((x.kind:Int) == 41)=false:=by rw [aaF];omega
 have t:((x.kind:Int) == 42)=false:=by rw [aaF];omega
 have l:((x.kind:Int) == 33)=false:=by rw [aaF];omega
 have k:((x.kind:Int) == 26)=false:=by rw [aaF];omega
 have u:((x.kind:Int) == 46)=false:=by rw [aaF];omega
 have j:=O (show Mist.sized T x=true by simp [Mist.sized,h,h41,h42,h33,h26,h46]);clear h h41 h42 h33 h26 h46 b;have i:=O (ah (ah (Below.refl w.heap.size w) (aaJ _) (o:=.cells #[.slice A n c,.slice B m d] 26)) (by simp) (o:=.cells #[.int .u8 x.kind,.string (aM x.text),.int .i64 x.n,.slice f a g,.int .i64 x.at_] 50));go_in
 go_wp2;go_ret;exact⟨bD j.o.symm,i.o⟩
theorem sized_40 (xs:List NV)(f:List Int)(b o n c:Nat)(B:Option Addr)(m d:Nat)(x:Nd)(C:Option Addr)(A E:Nat)(w:World)(y:oZ w b o xs)(H:n=xs.length)(k:x.kind=40)(F:nJ ⟨aA xs,f⟩ x)(t:A=x.kids.length)(G:IntsIn w C x.kids) :
  Calls Tryz.prog 97 #[.agg #[.slice (some ⟨b,o,none⟩) n c,.slice B m d],.agg #[.int .u8 x.kind,.string (aM x.text),.int .i64 x.n,.slice C A E,.int .i64 x.at_]] w fun e w'=>e=.returned (.bool (Mist.sized ⟨aA xs,f⟩ x))∧Below w.heap.size w w':=by
 obtain⟨k0,v,g,h0,h1,D,b1⟩:=F k;rw [aD,← H] at h0 h1
 obtain⟨I,l⟩:=jD (xs:=xs) (i:=k0) (by omega);obtain⟨J,q⟩:=jD (xs:=xs) (i:=v) (by omega);rw [l7 f l] at D
 rw [l7 f q] at b1
 obtain⟨M,h⟩:∃ a,a=I.1.n:=⟨_,rfl⟩;obtain⟨N,j⟩:∃ a,a=J.1.n:=⟨_,rfl⟩;rw [← h] at D
 rw [← j] at b1
 have L:=O (show Mist.sized ⟨aA xs,f⟩ x=Mist.within (N - M+1) 1 12 by
  simp only [Mist.sized,k,if_true];rw [g];simp only [List.getD_cons_succ,List.getD_cons_zero,aaQ];rw [l7 f l,l7 f q,h,j])
 have Q:=y.c2 k0 I l;have c1:=y.c2 v J q;rw [← h] at Q
 rw [← j] at c1
 obtain⟨P,ok,rfl,Y,r⟩:=G.ex (by rw [g];simp);have R:=r 0 k0 (by rw [g];rfl);have d1:=r 1 v (by rw [g];rfl);rw [Nat.add_zero] at R
 have u:A=2:=by rw [t,g];rfl
 subst u;have Z:=y.lt;have U:((x.kind:Int) == 40)=true:=by rw [k];rfl
 have V:((x.kind:Int) == 41)=false:=by rw [k];rfl
 have W:((x.kind:Int) == 42)=false:=by rw [k];rfl
 have T:((x.kind:Int) == 33)=false:=by rw [k];rfl
 have S:((x.kind:Int) == 26)=false:=by rw [k];rfl
 have X:((x.kind:Int) == 46)=false:=by rw [k];rfl
 clear k t r g l q h j y G H F;have i0:(0:Int)≤(k0:Int):=by omega
 have i1:(k0:Int) < (n:Int):=by omega
 have j0:(0:Int)≤(v:Int):=by omega
 have j1:(v:Int) < (n:Int):=by omega
 have K:=O (ah (ah (Below.refl w.heap.size w) (aaJ _) (o:=.cells #[.slice (some ⟨b,o,none⟩) n c,.slice B m d] 26)) (by simp) (o:=.cells #[.int .u8 x.kind,.string (aM x.text),.int .i64 x.n,.slice (some ⟨P,ok,none⟩) 2 E,.int .i64 x.at_] 50));go_in
 go_wp2_with fail;go_quiet (fail)
 go_wp2_with fail;refine (dU _ 1 12 _ rfl _).mono ?_;rintro e w2⟨rfl,rfl⟩;go_wp2_with fail;go_ret;exact⟨bD L.o.symm,gU K.o _⟩
theorem Xa (xs:List NV)(h:List Int)(A:Option Addr)(n c:Nat)(B:Option Addr)(m d:Nat)(x:Nd)(g:Option Addr)(f i:Nat)(w:World)(t:mq w A B xs h)(u:n=xs.length)(l:nJ ⟨aA xs,h⟩ x)(a:f=x.kids.length)(j:f≤1000000)(q:IntsIn w g x.kids) :
  Calls Tryz.prog 97 #[.agg #[.slice A n c,.slice B m d],.agg #[.int .u8 x.kind,.string (aM x.text),.int .i64 x.n,.slice g f i,.int .i64 x.at_]] w fun e v=>e=.returned (.bool (Mist.sized ⟨aA xs,h⟩ x))∧Below w.heap.size w v:=by
 by_cases k:x.kind=40
 ·obtain⟨k0,y,_,h0,_⟩:=l k;rw [aD] at h0
  obtain⟨b,o,rfl,r⟩:=t.nodes (by omega);exact sized_40 xs h b o n c B m d x g f i w r u k l a q
 by_cases h41:x.kind=41
 ·exact sized_41 _ A n c B m d x g f i a j w h41
 by_cases h42:x.kind=42
 ·exact sized_42 _ A n c B m d x g f i a j w h42
 by_cases h33:x.kind=33
 ·exact sized_33 _ A n c B m d x g f i a j w h33
 by_cases h26:x.kind=26
 ·exact sized_26 _ A n c B m d x g f i a j w h26
 by_cases h46:x.kind=46
 ·exact sized_46 _ A n c B m d x g f i a j w h46
 exact PD _ A n c B m d x g f i a j w k h41 h42 h33 h26 h46
end Go.Proofs.YthepmkjggfijoaaGreatDoor
