/-
  A part of the proof.
-/
import Derived.Test.YtalghggmkojblaaGreatDoorS33
set_option linter.all false
set_option maxRecDepth 100000
set_option maxHeartbeats 4000000
namespace Go.Proofs.YtalghggmkojblaaGreatDoor
section
open Go.RowKit Mist
def mX (T:Tr)(o:Option Nat)(i:Int):Option Nat:=o.bind fun x=>if Mist.within i x ((T.nodes.length:Int) - 1)=true then Mist.walk T (i.toNat+1) i.toNat true x else none
theorem GJ (T:Tr):∀ l:List Int,l.foldl (mX T) none=none
 | []=>rfl
 | _ :: r=>GJ T r
theorem Lu {T:Tr}{y:Nat}(h:T.items.foldl (mX T) (some 0)=some y):Mist.ordered T=(y == T.nodes.length):=by
 unfold Mist.ordered;unfold mX at h
 rw [h]
theorem BN {T:Tr}(h:T.items.foldl (mX T) (some 0)=none):Mist.ordered T=false:=by
 unfold Mist.ordered;unfold mX at h
 rw [h]
theorem Pf (A B:Option Addr)(c d:Nat)(xs:List NV)(a:List Int)(w:World)(hT:uZ w A B xs a)(hR:FL (aH xs))(hn:xs.length≤100000)(hm:a.length≤1000000)(hK:∀ (i:Nat) x,xs[i]? = some x→∀ k ∈ x.1.kids,0≤k∧k≤(i:Int) - 1) :
  Calls Tryz.prog 79 #[.agg #[.slice A xs.length c,.slice B a.length d]] w fun e w'=>e=.returned (.bool (Mist.ordered ⟨aH xs,a⟩))∧Below w.heap.size w w':=by
 obtain⟨n,u⟩:∃ n,n=xs.length:=⟨_,rfl⟩;obtain⟨m,D⟩:∃ m,m=a.length:=⟨_,rfl⟩;rw [← u] at hn ⊢
 rw [← D] at hm ⊢
 obtain⟨T,Q⟩:∃ T:Tr,T=⟨aH xs,a⟩:=⟨_,rfl⟩;rw [← Q];have UC:=O (show T.nodes.length=n by rw [Q,u];exact dK xs);have C:=O (show T.items=a by rw [Q]);have IB:=O Q;clear Q;have vv:=O u;clear u;have R:=O D;clear D;have HT:=O hT;clear hT;have V:=O hK;clear hK;have W:=O hR;clear hR;go_in
 go_wp2_with fail;have M:=((bY.new w 28 #[.slice A n c,.slice B m d]).alloc (.cells #[.int .i64 0] 3)).alloc (.cells #[.func (.func 117) #[] #[.pointer (some ⟨w.heap.size,0,none⟩),.pointer (some ⟨w.heap.size+1+1,0,none⟩),.pointer (some ⟨w.heap.size+1,0,none⟩)]] 140)
 have E:bY (((w.alloc (.cells #[.slice A n c,.slice B m d] 28)).alloc (.cells #[.int .i64 0] 3)).alloc (.cells #[.func (.func 117) #[] #[.pointer (some ⟨w.heap.size,0,none⟩),.pointer (some ⟨w.heap.size+1+1,0,none⟩),.pointer (some ⟨w.heap.size+1,0,none⟩)]] 140)) (w.heap.size+1) 3 #[.int .i64 0]:=by
  refine bY.alloc ?_ _;have h9:=bY.new (w.alloc (.cells #[.slice A n c,.slice B m d] 28)) 3 #[.int .i64 0]
  rwa [show (w.alloc (.cells #[.slice A n c,.slice B m d] 28)).heap.size=w.heap.size+1 by simp] at h9
 have N:bY (((w.alloc (.cells #[.slice A n c,.slice B m d] 28)).alloc (.cells #[.int .i64 0] 3)).alloc (.cells #[.func (.func 117) #[] #[.pointer (some ⟨w.heap.size,0,none⟩),.pointer (some ⟨w.heap.size+1+1,0,none⟩),.pointer (some ⟨w.heap.size+1,0,none⟩)]] 140)) (w.heap.size+1+1) 140 #[.func (.func 117) #[] #[.pointer (some ⟨w.heap.size,0,none⟩),.pointer (some ⟨w.heap.size+1+1,0,none⟩),.pointer (some ⟨w.heap.size+1,0,none⟩)]]:=by
  have h9:=bY.new ((w.alloc (.cells #[.slice A n c,.slice B m d] 28)).alloc (.cells #[.int .i64 0] 3)) 140 #[.func (.func 117) #[] #[.pointer (some ⟨w.heap.size,0,none⟩),.pointer (some ⟨w.heap.size+1+1,0,none⟩),.pointer (some ⟨w.heap.size+1,0,none⟩)]]
  rwa [show ((w.alloc (.cells #[.slice A n c,.slice B m d] 28)).alloc (.cells #[.int .i64 0] 3)).heap.size=w.heap.size+1+1 by simp] at h9
 have H:=O (show uj w _ w.heap.size (w.heap.size+1) (w.heap.size+1+1) (.slice A n c) (.slice B m d) ((0:Nat):Int) from ⟨M,N,E,aU (aU (aU (Below.refl _ _) (amL _)) (by simp)) (by simp;omega),by omega⟩);clear M E N;go_loopw [11] (fun j wr=>∃ (g y:Nat),g≤m∧j=.int .i64 g∧y≤1000000∧Hid (uj w wr w.heap.size (w.heap.size+1) (w.heap.size+1+1) (.slice A n c) (.slice B m d) (y:Int))∧Hid ((a.drop g).foldl (mX T) (some y)=a.foldl (mX T) (some 0))) (fun j _=>m - (intOf j).toNat)
 case atStart=>exact⟨0,0,amN _,rfl,by omega,H,O rfl⟩
 case round =>
  clear H;obtain⟨wo,rfl⟩:∃ wo:World,wo=wr:=⟨_,rfl⟩;obtain⟨g,y,hj,rfl,hy,l,S⟩:=hrel;have t0:=l.o.tree.cell 0;have s0:=l.o.self.cell 0;have y0:=l.o.next.cell 0;by_cases r:g < m
  ·obtain⟨q,Z⟩:∃ q,a[g]? = some q:=⟨_,amF (by rw [← R.o];exact r)⟩;obtain⟨bi,oi,rfl,Y,K⟩:=HT.o.items.ex (by rw [← R.o];omega);have cj:=(l.o.low.cell (p:=⟨bi,oi+g,none⟩) Y).trans (K g q Z)
   have F:=O (show a.drop g=q :: a.drop (g+1) by
    rw [amZ (by rw [← R.o];exact r),(amG.1 Z).2])
   have v:=O (show (a.drop (g+1)).foldl (mX T) (if Mist.within q y ((n:Int) - 1)=true then Mist.walk T (q.toNat+1) q.toNat true y else none)=a.foldl (mX T) (some 0) by
    have h9:=S.o;rw [F.o,List.foldl_cons] at h9
    rw [← h9,mX,Option.bind_some,UC.o])
   clear K Z F S;have j0:(0:Int)≤(g:Int):=by omega
   have j1:(g:Int) < (m:Int):=by omega
   have j2:decide (g < m)=true:=amW r
   cases L:Mist.within q y ((n:Int) - 1)
   ·have J:=O L;clear L;have I:=O (show Mist.ordered T=false from BN (by rw [C.o,← v.o,J.o,if_neg (by simp)];exact GJ T _));go_wp2_with fail;refine (dO q y _ false J.o _).mono ?_;rintro e w2⟨rfl,rfl⟩;go_wp2_with fail;go_ret;exact⟨bM I.o.symm,l.o.low⟩
   ·have E:(y:Int)≤q∧q≤(n:Int) - 1:=by simpa [Mist.within] using L
    have J:=O L;clear L;obtain⟨qn,rfl⟩:∃ qn:Nat,q=(qn:Int):=⟨q.toNat,by omega⟩;obtain⟨b,o,rfl,hN⟩:=HT.o.nodes (by rw [← vv.o];omega);have HC:=O (adk xs a b o c m d n _ w hN vv.o hn V.o W.o w.heap.size (w.heap.size+1) (w.heap.size+1+1) (qn+1) qn 1 true y wo (by omega) (by omega) (by omega) (by omega) rfl hy l.o)
    have G:=O (show (a.drop (g+1)).foldl (mX T) (Mist.walk T (qn+1) qn true y)=a.foldl (mX T) (some 0) by
     have h9:=v.o;rw [J.o,if_pos rfl,amS] at h9
     exact h9)
    clear hN v;go_wp2_with fail;refine (dO (qn:Int) y _ true J.o _).mono ?_;rintro e w2⟨rfl,rfl⟩;go_wp2_with fail;refine HC.o.mono ?_;rintro e w3⟨t,f⟩;rw [← IB.o] at f
    cases h:Mist.walk T (qn+1) qn true y with
    | none =>
     rw [h] at f
     obtain⟨rfl,z,P⟩:=f;have I:=O (show Mist.ordered T=false from BN (by rw [C.o,← G.o,h];exact GJ T _));have X:=O (l.o.mv t P);clear h P t;go_wp2_with fail;go_ret;exact⟨bM I.o.symm,X.o.low⟩
    | some z =>
     rw [h] at f
     obtain⟨rfl,P⟩:=f;have hzv:=Qg h;have X:=O (l.o.mv t P);have U:=O (by have h9:=G.o;rw [h] at h9;exact h9);have hz6:z≤1000000:=by omega
     clear h P t hzv;go_wp2_with fail;exact⟨⟨g+1,z,by omega,by go_num,hz6,X,U⟩,by simp [intOf];omega⟩
  ·have I:=O (show Mist.ordered T=(y == n) by
    have h9:=S.o;rw [List.drop_of_length_le (by rw [← R.o];omega)] at h9
    rw [Lu (y:=y) (by rw [C.o];exact h9.symm),UC.o])
   have j2:decide (g < m)=false:=amX r;go_wp2_with fail;go_ret
   refine⟨bM ?_,l.o.low⟩
   rw [I.o,amK];simp
   omega
end
section
open Go.RowKit Mist
open Go.WideShapes Go.Maps
def Gi:Lit→Bool
 | .int .i64 _=>true
 | _=>false
def kX (D:DataW Unit)(P:Int→Bool):Prop:=∃ es,D=.map es∧(es.any fun p=>!Gi p.1)=false∧∀ j:Int,Maps.has D (.int .i64 j)=P j
theorem kX.empty:kX (.map []) (fun _=>false):=⟨[],rfl,rfl,fun _=>rfl⟩
theorem kX.imp {D:DataW Unit}{P Q:Int→Bool}(h:kX D P)(e:∀ j,P j=Q j):kX D Q:=by
 obtain⟨a,rfl,h1,h2⟩:=h;exact⟨a,rfl,h1,fun j=>(h2 j).trans (e j)⟩
theorem lX {a:Type}{f g:a→Bool}:∀ l:List a,l.any f=false→(l.filter g).any f=false
 | [],_=>rfl
 | y :: r,h=>by
  rw [List.any_cons] at h
  have h1:f y=false:=by cases b:f y <;> simp_all
  have h2:r.any f=false:=by cases b:r.any f <;> simp_all
  rw [List.filter_cons];split
  ·rw [List.any_cons,h1,lX r h2];rfl
  ·exact lX r h2
theorem kX.put {D:DataW Unit}{P:Int→Bool}(h:kX D P)(k:Int)(d:DataW Unit):kX (D.put (.int .i64 k) d) (fun j=>P j || j == k):=by
 obtain⟨b,rfl,h1,h2⟩:=h
 refine⟨DataW.insert (.int .i64 k,d) (b.filter fun p=>!p.1.sameKey (.int .i64 k)),rfl,?_,fun j=>?_⟩
 ·rw [any_insert,lX b h1];rfl
 ·by_cases e:j=k
  ·subst e;rw [has_put_same ⟨_,rfl⟩ (by trivial)];simp
  ·rw [has_put_other (by intro a;injection a with _ a;exact e a),h2 j];simp [e]
theorem kX.del {D:DataW Unit}{P:Int→Bool}(h:kX D P)(k:Int):kX (D.del (.int .i64 k)) (fun j=>P j && !(j == k)):=by
 obtain⟨b,rfl,h1,h2⟩:=h
 refine⟨b.filter fun p=>!p.1.sameKey (.int .i64 k),rfl,lX b h1,fun j=>?_⟩
 by_cases e:j=k
 ·subst e;rw [has_del_same];simp
 ·rw [has_del_other (by intro a;injection a with _ a;exact e a),h2 j];simp [e]
theorem kX.zero {D:DataW Unit}{P:Int→Bool}(h:kX D P):Maps.size D=0↔∀ j,P j=false:=by
 obtain⟨c,rfl,h1,h2⟩:=h;constructor
 ·intro h0 j
  have:c=[]:=List.eq_nil_of_length_eq_zero h0
  subst this;rw [← h2 j];rfl
 ·intro h0
  cases c with
  | nil=>rfl
  | cons p r =>
   exfalso
   rw [List.any_cons] at h1
   have b:Gi p.1=true:=by cases e:Gi p.1 <;> simp_all
   obtain⟨l,d⟩:=p;simp only at b
   cases l with
   | int q a =>
    cases q <;> simp [Gi] at b
    have:=h2 a
    rw [h0 a,has_eq] at this
    simp [WideAt.sameKey_self (a:=Lit.int .i64 a) (by trivial)] at this
   | _=>simp [Gi] at b
def EF (T:Tr)(k:Nat)(j:Int):Bool:=decide (0≤j∧j < (k:Int)) && ((nd T j.toNat).kind == 1 && decide ((nd T j.toNat).n < 0))
theorem Dx {T:Tr}{k:Nat}(b:Bool)(a:((nd T k).kind == 1 && decide ((nd T k).n < 0))=b)(j:Int):EF T (k+1) j=(EF T k j || (b && j == (k:Int))):=by
 unfold EF;by_cases e:j=(k:Int)
 ·subst e;rw [amS,a];have h1:decide (0≤(k:Int)∧(k:Int) < ((k+1:Nat):Int))=true:=amW (by omega);have h2:decide (0≤(k:Int)∧(k:Int) < (k:Int))=false:=amX (by omega);rw [h1,h2];simp
 ·have h1:decide (0≤j∧j < ((k+1:Nat):Int))=decide (0≤j∧j < (k:Int)):=by
   congr 1;apply propext;omega
  rw [h1];simp [e]
def zU (T:Tr)(l:List Int)(j:Int):Bool:=l.any fun c=>(nd T c.toNat).kind == 40 && (nd T c.toNat).kids.contains j
theorem Jq (T:Tr)(l:List Int)(c j:Int):zU T (l ++ [c]) j=(zU T l j || ((nd T c.toNat).kind == 40 && (nd T c.toNat).kids.contains j)):=by
 simp [zU]
theorem Uf (T:Tr):Mist.signed T=true↔∀ j,(EF T T.nodes.length j && !zU T T.items j)=false:=by
 unfold Mist.signed;rw [amT];constructor
 ·intro h j;by_cases a:0≤j∧j < (T.nodes.length:Int)
  ·have:=h j.toNat (List.mem_range.2 (by omega))
   have e:((j.toNat:Nat):Int)=j:=by omega
   rw [e] at this
   unfold EF zU
   revert this
   generalize ((nd T j.toNat).kind == 1 && decide ((nd T j.toNat).n < 0))=x
   generalize (T.items.any fun c=>(nd T c.toNat).kind == 40 && (nd T c.toNat).kids.contains j)=y
   intro this
   cases x <;> cases y <;> simp_all
  ·unfold EF;rw [amX a];simp
 ·intro h i hi;have hi:=List.mem_range.1 hi
  have:=h (i:Int)
  unfold EF zU at this
  rw [amW (by omega),amS] at this
  revert this
  generalize ((nd T i).kind == 1 && decide ((nd T i).n < 0))=x
  generalize (T.items.any fun c=>(nd T c.toNat).kind == 40 && (nd T c.toNat).kids.contains (i:Int))=y
  intro this
  cases x <;> cases y <;> simp_all
theorem Vk:Keyed Tryz.prog 3:=int_keyed Tryz.underlying3
theorem wf_i64 {j:Int}(h:pY≤j∧j≤kV):(Lit.int .i64 j).wf=true:=WalkArith.wf_i64 (by unfold pY kV at h;omega)
theorem Ue (A B:Option Addr)(c d:Nat)(xs:List NV)(a:List Int)(w:World)(hT:uZ w A B xs a)(hR:FL (aH xs))(hn:xs.length≤100000)(hm:a.length≤1000000)(hI:∀ q ∈ a,0≤q∧q < (xs.length:Int)) :
  Calls Tryz.prog 80 #[.agg #[.slice A xs.length c,.slice B a.length d]] w fun e w'=>e=.returned (.bool (Mist.signed ⟨aH xs,a⟩))∧Below w.heap.size w w':=by
 obtain⟨n,K⟩:∃ n,n=xs.length:=⟨_,rfl⟩;obtain⟨m,Q⟩:∃ m,m=a.length:=⟨_,rfl⟩;rw [← K] at hn hI ⊢
 rw [← Q] at hm ⊢
 obtain⟨T,uo⟩:∃ T:Tr,T=⟨aH xs,a⟩:=⟨_,rfl⟩;rw [← uo];have UC:=O (show T.nodes.length=n by rw [uo,K];exact dK xs);have HTI:=O (show T.items=a by rw [uo]);have IB:=O uo;clear uo;have vv:=O K;clear K;have xu:=O Q;clear Q;have HT:=O hT;clear hT;have HII:=O hI;clear hI;have HRR:=O hR;clear hR;have hmk:=@run_makeMap Tryz.prog;go_in
 go_wp2_with fail;have yh:=O (aU (aU (Below.refl w.heap.size w) (amL _) (o:=.cells #[.slice A n c,.slice B m d] 28)) (by simp) (o:=.map #[] 0));have X:=O ((bY.new w 28 #[.slice A n c,.slice B m d]).alloc (.map #[] 0))
 have W:=O (by
  have h9:=World.ownsMap_made (w.alloc (.cells #[.slice A n c,.slice B m d] 28)) Tryz.prog 3 (plainElem (H:=Unit) Tryz.prog 4);rw [show (w.alloc (.cells #[.slice A n c,.slice B m d] 28)).heap.size=w.heap.size+1 by simp] at h9
  exact h9)
 clear hmk;go_loopw [14] (fun i wr=>∃ (k:Nat) (D:DataW Unit),k≤n∧i=.int .i64 k∧Hid (Below w.heap.size w wr)∧Hid (bY wr w.heap.size 28 #[.slice A n c,.slice B m d])∧wr.ownsMap Tryz.prog 3 (plainElem Tryz.prog 4) (w.heap.size+1) k D∧Hid (kX D (EF T k))) (fun i _=>n - (intOf i).toNat)
 case atStart=>exact⟨0,.map [],amN _,rfl,yh,X,W.o,O (kX.empty.imp (fun j=>by unfold EF;rw [amX (by omega)];rfl))⟩
 case round =>
  clear yh X W;obtain⟨wo,rfl⟩:∃ wo:World,wo=wr:=⟨_,rfl⟩;obtain⟨k,D,hk,rfl,g,t,h,F⟩:=hrel;have f:=O h;clear h;have t0:=t.o.cell 0;have t1:=t.o.cell 1;have htl:=t.o.lt;by_cases P:k < n
  ·obtain⟨b,o,rfl,r⟩:=HT.o.nodes (by rw [← vv.o];omega);obtain⟨x,y⟩:∃ x,xs[k]? = some x:=nE (by rw [← vv.o];exact P);have U:=O (show nd T k=x.1 by rw [IB.o];exact bD a y);have c0:=(g.o.cell (p:=⟨b,o+k * 5,none⟩) r.lt).trans (r.c0 k x y);have c1:=(g.o.cell (p:=⟨b,o+k * 5+1,none⟩) r.lt).trans (r.c1 k x y);have c2:=(g.o.cell (p:=⟨b,o+k * 5+2,none⟩) r.lt).trans (r.c2 k x y);have c3:=(g.o.cell (p:=⟨b,o+k * 5+3,none⟩) r.lt).trans (r.c3 k x y);have c4:=(g.o.cell (p:=⟨b,o+k * 5+4,none⟩) r.lt).trans (r.c4 k x y);obtain⟨Ak,ck,I,_,_⟩:=r.kid y;rw [I] at c3
   clear r y I;have i1:(0:Int)≤(k:Int):=by omega
   have i2:(k:Int) < (n:Int):=by omega
   have i3:decide (k < n)=true:=amW P;have G:keyOf Tryz.prog 3 (.int .i64 (k:Int))=some (.int .i64 (k:Int)):=keyOf_int_mk Tryz.underlying3 (wf_i64 (by unfold pY kV;omega));by_cases h1:x.1.kind=1
   ·have e1:((x.1.kind:Int) == 1)=true:=by rw [h1];rfl
    by_cases h2:x.1.n < 0
    ·have e2:decide (x.1.n < 0)=true:=amW h2;have Y:=O (Dx (T:=T) (k:=k) true (by rw [U.o];simp [h1,h2]));clear h1 h2
     go_wp2_with (at_mapUpdate
                  refine wpList_mapUpdate_own _ rfl _ _ _ 167 rfl 3 4 Vk Tryz.underlying167 _ (w.heap.size+1) k D rfl (f.o.alloc _) (by unfold maxLen;omega) _ _ _ rfl rfl G _ [] (plainElem_bool Tryz.underlying4 true) ?_;intro w1 v C)
     refine⟨⟨k+1,_,by omega,by go_num,O ?_,O ?_,v,O ?_⟩,by simp [intOf];omega⟩
     ·exact (aU g.o g.o.size).grown C (by simp;omega) (fun b Z=>by injection Z with Z;omega)
     ·exact (t.o.alloc _).grown C (by simp)
     ·exact (F.o.put (k:Int) _).imp (fun j=>by rw [Y.o j];simp)
    ·have e2:decide (x.1.n < 0)=false:=amX h2;have Y:=O (Dx (T:=T) (k:=k) false (by rw [U.o];simp [h2]));clear h1 h2;go_wp2_with fail;exact⟨⟨k+1,D,by omega,by go_num,O (aU g.o g.o.size),O (t.o.alloc _),(f.o.alloc _).mono (by omega),O (F.o.imp (fun j=>by rw [Y.o j];simp))⟩,by simp [intOf];omega⟩
   ·have e1:((x.1.kind:Int) == 1)=false:=by rw [amH];omega
    have Y:=O (Dx (T:=T) (k:=k) false (by rw [U.o];simp [h1]));clear h1;go_wp2_with fail;exact⟨⟨k+1,D,by omega,by go_num,O (aU g.o g.o.size),O (t.o.alloc _),(f.o.alloc _).mono (by omega),O (F.o.imp (fun j=>by rw [Y.o j];simp))⟩,by simp [intOf];omega⟩
  ·obtain rfl:k=n:=by omega
   have i3:decide (k < k)=false:=amX P;go_wp2_with fail;go_loopw [33] (fun i wr=>∃ (l:Nat) (D:DataW Unit),l≤m∧i=.int .i64 l∧Hid (Below w.heap.size w wr)∧Hid (bY wr w.heap.size 28 #[.slice A k c,.slice B m d])∧wr.ownsMap Tryz.prog 3 (plainElem Tryz.prog 4) (w.heap.size+1) k D∧Hid (kX D (fun j=>EF T k j && !zU T (a.take l) j))) (fun i _=>m - (intOf i).toNat)
   case atStart=>exact⟨0,D,amN _,rfl,g,t,f.o,O (F.o.imp (fun j=>by simp [zU]))⟩
   case round =>
    clear g t f F;obtain⟨wp,rfl⟩:∃ wp:World,wp=wr:=⟨_,rfl⟩;obtain⟨l,D2,hj,rfl,g,t,h,F⟩:=hrel;have f:=O h;clear h;have t0:=t.o.cell 0;have t1:=t.o.cell 1;have htl:=t.o.lt;by_cases N:l < m
    ·obtain⟨q,hq⟩:∃ q,a[l]? = some q:=⟨_,amF (by rw [← xu.o];exact N)⟩;have hqb:=HII.o q (amO hq);obtain⟨qn,rfl⟩:∃ qn:Nat,q=(qn:Int):=⟨q.toNat,by omega⟩;obtain⟨bi,oi,rfl,hbi,hci⟩:=HT.o.items.ex (by rw [← xu.o];omega);have cj:=(g.o.cell (p:=⟨bi,oi+l,none⟩) hbi).trans (hci l qn hq);have V:=O (show a.take (l+1)=a.take l ++ [(qn:Int)] by rw [List.take_add_one,hq];rfl);clear hci hq;obtain⟨b,o,rfl,r⟩:=HT.o.nodes (by rw [← vv.o];omega);obtain⟨x,y⟩:∃ x,xs[qn]? = some x:=nE (by rw [← vv.o];omega);have U:=O (show nd T qn=x.1 by rw [IB.o];exact bD a y);have c0:=(g.o.cell (p:=⟨b,o+qn * 5,none⟩) r.lt).trans (r.c0 qn x y);have c3:=(g.o.cell (p:=⟨b,o+qn * 5+3,none⟩) r.lt).trans (r.c3 qn x y);obtain⟨Ak,ck,I,hxl,hxk⟩:=r.kid y;have HKR:=O (HRR.o x.1 (List.mem_map_of_mem (amO y)));rw [I] at c3
     have Y8:=O hxk;clear r y I hxk;obtain⟨L,R⟩:∃ L,L=x.1.kids.length:=⟨_,rfl⟩;rw [← R] at c3 hxl
     have Iq:=O R;clear R;have i1:(0:Int)≤(qn:Int):=by omega
     have i2:(qn:Int) < (k:Int):=by omega
     have j0:(0:Int)≤(l:Int):=by omega
     have j1:(l:Int) < (m:Int):=by omega
     have j2:decide (l < m)=true:=amW N;by_cases xU:x.1.kind=40
     ·have e1:((x.1.kind:Int) != 40)=false:=by rw [xU];rfl
      have M:=O (show ∀ j,zU T (a.take (l+1)) j=(zU T (a.take l) j || x.1.kids.contains j) from fun j=>by
       rw [V.o,Jq,amS,U.o,xU];simp)
      clear xU;go_wp2_with fail;go_loopw [51] (fun i wr=>∃ (u:Nat) (D:DataW Unit),u≤L∧i=.int .i64 u∧Hid (Below w.heap.size w wr)∧Hid (bY wr w.heap.size 28 #[.slice (some ⟨b,o,none⟩) k c,.slice (some ⟨bi,oi,none⟩) m d])∧wr.ownsMap Tryz.prog 3 (plainElem Tryz.prog 4) (w.heap.size+1) k D∧Hid (kX D (fun j=>(EF T k j && !zU T (a.take l) j) && !(x.1.kids.take u).contains j))) (fun i _=>L - (intOf i).toNat)
      case atStart=>exact⟨0,D2,amN _,rfl,g,t,f.o,O (F.o.imp (fun j=>by simp))⟩
      case round =>
       clear g t f F;obtain⟨wq,rfl⟩:∃ wq:World,wq=wr:=⟨_,rfl⟩;obtain⟨u,D3,hz,rfl,g,t,h,F⟩:=hrel;have f:=O h;clear h;by_cases S:u < L
       ·obtain⟨kq,J⟩:∃ kq,x.1.kids[u]? = some kq:=⟨_,amF (by rw [← Iq.o];exact S)⟩;obtain⟨bk,ok,rfl,hbk,hck⟩:=Y8.o.ex (by rw [← Iq.o];omega);have cz:=(g.o.cell (p:=⟨bk,ok+u,none⟩) hbk).trans (hck u kq J);have HZN:=O (show x.1.kids.take (u+1)=x.1.kids.take u ++ [kq] by rw [List.take_add_one,J];rfl);have G:keyOf Tryz.prog 3 (.int .i64 kq)=some (.int .i64 kq):=keyOf_int_mk Tryz.underlying3 (wf_i64 (HKR.o.kids kq (amO J)));clear hck J;have z0:(0:Int)≤(u:Int):=by omega
        have z1:(u:Int) < (L:Int):=by omega
        have z2:decide (u < L)=true:=amW S
        go_wp2_with (at_delete
                     refine wpList_delete_own _ rfl _ _ 167 3 rfl 4 Vk Tryz.underlying167 _ (w.heap.size+1) k D3 rfl f.o _ _ rfl G ?_;intro w1 v E)
        refine⟨⟨u+1,_,by omega,by go_num,O ?_,O ?_,v,O ?_⟩,by simp [intOf];omega⟩
        ·exact g.o.grown E.grown g.o.size (fun b Z=>by injection Z with Z;omega)
        ·exact t.o.grown E.grown (by simp)
        ·refine (F.o.del kq).imp (fun j=>?_);rw [HZN.o];have h9:(x.1.kids.take u ++ [kq]).contains j=((x.1.kids.take u).contains j || j == kq):=by rw [amK];simp
         rw [h9,Bool.not_or,Bool.and_assoc]
       ·have HKE:=O (show kX D3 (fun j=>EF T k j && !zU T (a.take (l+1)) j) from F.o.imp (fun j=>by
         rw [show x.1.kids.take u=x.1.kids from amP (by rw [← Iq.o];omega),M.o j,Bool.not_or,Bool.and_assoc]))
        have z2:decide (u < L)=false:=amX S;go_wp2_with fail;exact⟨⟨l+1,D3,by omega,by go_num,g,t,f.o,HKE⟩,by simp [intOf];omega⟩
     ·have e1:((x.1.kind:Int) != 40)=true:=by rw [bne_iff_ne];omega
      have M:=O (show ∀ j,zU T (a.take (l+1)) j=zU T (a.take l) j from fun j=>by
       rw [V.o,Jq,amS,U.o];simp [xU])
      clear xU;go_wp2_with fail;exact⟨⟨l+1,D2,by omega,by go_num,g,t,f.o,O (F.o.imp (fun j=>by rw [M.o j]))⟩,by simp [intOf];omega⟩
    ·have j2:decide (l < m)=false:=amX N
     have HSG:=O (show Mist.signed T=decide (Maps.size D2=0) by
      have h9:=F.o;rw [amP (by rw [← xu.o];omega),← HTI.o] at h9
      rw [amK,Uf,decide_eq_true_eq,h9.zero,UC.o])
     go_wp2_with (at_len
                  refine wpList_len_own _ rfl _ 167 rfl 3 4 Tryz.underlying167 _ (w.heap.size+1) k D2 rfl f.o ?_)
     go_ret
     refine⟨bM ?_,g.o⟩
     rw [HSG.o,amK];simp
end
section
open Go.RowKit Mist
attribute [local go_sem] ak aN aV aF aj
theorem yI (c d f g:Value)(b:Option Addr)(a h:Nat)(j:a≤1000000)(w:World):Calls Tryz.prog 113 #[.agg #[c,d,f,.slice b a h,g]] w fun e i=>e=.returned (.int .i64 ((a:Int) - 2))∧Below w.heap.size w i:=by
 go_in
 go_wp2;go_ret;exact⟨rfl,aU (Below.refl _ _) (amL _)⟩
def oJ (T:Tr)(x:Nd):Prop:=x.kind=40→∃ k0 k1:Nat,x.kids=[(k0:Int),(k1:Int)]∧k0 < T.nodes.length∧k1 < T.nodes.length∧(-9999≤(nd T k0).n∧(nd T k0).n≤9999)∧(-9999≤(nd T k1).n∧(nd T k1).n≤9999)
theorem ac7 (T:Tr)(A:Option Addr)(n c:Nat)(B:Option Addr)(m d:Nat)(x:Nd)(g:Option Addr)(f h:Nat)(b:f=x.kids.length)(y:f≤1000000)(w:World)(a:x.kind=41) :
  Calls Tryz.prog 73 #[.agg #[.slice A n c,.slice B m d],.agg #[.int .u8 x.kind,.string (aG x.text),.int .i64 x.n,.slice g f h,.int .i64 x.at_]] w fun e v=>e=.returned (.bool (Mist.sized T x))∧Below w.heap.size w v:=by
 have q:((x.kind:Int) == 40)=false:=by rw [a];rfl
 have r:((x.kind:Int) == 41)=true:=by rw [a];rfl
 have t:((x.kind:Int) == 42)=false:=by rw [a];rfl
 have l:((x.kind:Int) == 33)=false:=by rw [a];rfl
 have k:((x.kind:Int) == 26)=false:=by rw [a];rfl
 have u:((x.kind:Int) == 46)=false:=by rw [a];rfl
 have j:=O (show Mist.sized T x=decide (f≤6) by simp [Mist.sized,a,b]);clear a b;have i:=O (aU (aU (Below.refl w.heap.size w) (amL _) (o:=.cells #[.slice A n c,.slice B m d] 28)) (by simp) (o:=.cells #[.int .u8 x.kind,.string (aG x.text),.int .i64 x.n,.slice g f h,.int .i64 x.at_] 56));go_in
 go_wp2;go_ret;exact⟨bM (by rw [j.o];rw [amK];simp;omega),i.o⟩
theorem ac4 (T:Tr)(A:Option Addr)(n c:Nat)(B:Option Addr)(m d:Nat)(x:Nd)(g:Option Addr)(f h:Nat)(b:f=x.kids.length)(y:f≤1000000)(w:World)(a:x.kind=26) :
  Calls Tryz.prog 73 #[.agg #[.slice A n c,.slice B m d],.agg #[.int .u8 x.kind,.string (aG x.text),.int .i64 x.n,.slice g f h,.int .i64 x.at_]] w fun e v=>e=.returned (.bool (Mist.sized T x))∧Below w.heap.size w v:=by
 have q:((x.kind:Int) == 40)=false:=by rw [a];rfl
 have r:((x.kind:Int) == 41)=false:=by rw [a];rfl
 have t:((x.kind:Int) == 42)=false:=by rw [a];rfl
 have l:((x.kind:Int) == 33)=false:=by rw [a];rfl
 have k:((x.kind:Int) == 26)=true:=by rw [a];rfl
 have u:((x.kind:Int) == 46)=false:=by rw [a];rfl
 have j:=O (show Mist.sized T x=decide (f≤6) by simp [Mist.sized,a,b]);clear a b;have i:=O (aU (aU (Below.refl w.heap.size w) (amL _) (o:=.cells #[.slice A n c,.slice B m d] 28)) (by simp) (o:=.cells #[.int .u8 x.kind,.string (aG x.text),.int .i64 x.n,.slice g f h,.int .i64 x.at_] 56));go_in
 go_wp2;go_ret;exact⟨bM (by rw [j.o];rw [amK];simp;omega),i.o⟩
theorem ac5 (T:Tr)(A:Option Addr)(n c:Nat)(B:Option Addr)(m d:Nat)(x:Nd)(g:Option Addr)(f h:Nat)(b:f=x.kids.length)(y:f≤1000000)(w:World)(a:x.kind=33) :
  Calls Tryz.prog 73 #[.agg #[.slice A n c,.slice B m d],.agg #[.int .u8 x.kind,.string (aG x.text),.int .i64 x.n,.slice g f h,.int .i64 x.at_]] w fun e v=>e=.returned (.bool (Mist.sized T x))∧Below w.heap.size w v:=by
 have q:((x.kind:Int) == 40)=false:=by rw [a];rfl
 have r:((x.kind:Int) == 41)=false:=by rw [a];rfl
 have t:((x.kind:Int) == 42)=false:=by rw [a];rfl
 have l:((x.kind:Int) == 33)=true:=by rw [a];rfl
 have k:((x.kind:Int) == 26)=false:=by rw [a];rfl
 have u:((x.kind:Int) == 46)=false:=by rw [a];rfl
 have j:=O (show Mist.sized T x=Mist.within x.n 1 6 by simp [Mist.sized,a,b]);clear a b;have i:=O (aU (aU (Below.refl w.heap.size w) (amL _) (o:=.cells #[.slice A n c,.slice B m d] 28)) (by simp) (o:=.cells #[.int .u8 x.kind,.string (aG x.text),.int .i64 x.n,.slice g f h,.int .i64 x.at_] 56));go_in
 go_wp2_with fail;refine (dO x.n 1 6 _ rfl _).mono ?_;rintro e C⟨rfl,rfl⟩;go_wp2_with fail;go_ret;exact⟨bM j.o.symm,i.o⟩
theorem ac9 (T:Tr)(A:Option Addr)(n c:Nat)(B:Option Addr)(m d:Nat)(x:Nd)(h:Option Addr)(f k:Nat)(b:f=x.kids.length)(D:f≤1000000)(w:World)(a:x.kind=46) :
  Calls Tryz.prog 73 #[.agg #[.slice A n c,.slice B m d],.agg #[.int .u8 x.kind,.string (aG x.text),.int .i64 x.n,.slice h f k,.int .i64 x.at_]] w fun e C=>e=.returned (.bool (Mist.sized T x))∧Below w.heap.size w C:=by
 have t:((x.kind:Int) == 40)=false:=by rw [a];rfl
 have u:((x.kind:Int) == 41)=false:=by rw [a];rfl
 have v:((x.kind:Int) == 42)=false:=by rw [a];rfl
 have r:((x.kind:Int) == 33)=false:=by rw [a];rfl
 have q:((x.kind:Int) == 26)=false:=by rw [a];rfl
 have y:((x.kind:Int) == 46)=true:=by rw [a];rfl
 have j:=O (show Mist.sized T x=(!(x.n == 8) || decide (f≤4)) by simp [Mist.sized,a,b]);clear a b;have i:=O (aU (aU (Below.refl w.heap.size w) (amL _) (o:=.cells #[.slice A n c,.slice B m d] 28)) (by simp) (o:=.cells #[.int .u8 x.kind,.string (aG x.text),.int .i64 x.n,.slice h f k,.int .i64 x.at_] 56));by_cases h8:x.n=8
 ·have l:(x.n != 8)=false:=by simp [h8]
  have g:=O (show (x.n == 8)=true by simpa using h8);clear h8;go_in
  go_wp2;go_ret;exact⟨bM (by rw [j.o,g.o];rw [amK];simp;omega),i.o⟩
 ·have l:(x.n != 8)=true:=by simpa using h8
  have g:=O (show (x.n == 8)=false by simpa using h8);clear h8;go_in
  go_wp2;go_ret;exact⟨bM (by rw [j.o,g.o];rfl),i.o⟩
theorem ac8 (T:Tr)(A:Option Addr)(n c:Nat)(B:Option Addr)(m d:Nat)(x:Nd)(j:Option Addr)(a l:Nat)(q:a=x.kids.length)(D:a≤1000000)(w:World)(i:x.kind=42) :
  Calls Tryz.prog 73 #[.agg #[.slice A n c,.slice B m d],.agg #[.int .u8 x.kind,.string (aG x.text),.int .i64 x.n,.slice j a l,.int .i64 x.at_]] w fun e L=>e=.returned (.bool (Mist.sized T x))∧Below w.heap.size w L:=by
 have G:((x.kind:Int) == 40)=false:=by rw [i];rfl
 have H:((x.kind:Int) == 41)=false:=by rw [i];rfl
 have I:((x.kind:Int) == 42)=true:=by rw [i];rfl
 have F:((x.kind:Int) == 33)=false:=by rw [i];rfl
 have E:((x.kind:Int) == 26)=false:=by rw [i];rfl
 have J:((x.kind:Int) == 46)=false:=by rw [i];rfl
 have y:=O (show Mist.sized T x=(decide ((a:Int) - 2≤4) && decide (x.n≤8)) by simp [Mist.sized,i,q]);clear i q;have v:=O (aU (aU (Below.refl w.heap.size w) (amL _) (o:=.cells #[.slice A n c,.slice B m d] 28)) (by simp) (o:=.cells #[.int .u8 x.kind,.string (aG x.text),.int .i64 x.n,.slice j a l,.int .i64 x.at_] 56));by_cases h6:(a:Int) - 2≤4
 ·have r:decide ((a:Int) - 2≤4)=true:=amW h6;by_cases h8:x.n≤8
  ·have C:decide (x.n≤8)=true:=amW h8;have f:=O (show Mist.sized T x=true by rw [y.o,r,C];rfl);go_in
   go_wp2_with fail;refine (yI _ _ _ _ j a l D _).mono ?_;rintro e t⟨rfl,g⟩;have u:=O (show bY t (w.heap.size+1) 56 #[.int .u8 x.kind,.string (aG x.text),.int .i64 x.n,.slice j a l,.int .i64 x.at_] from bY.below (by repeat (first|(with_reducible exact bY.new _ _ _)|(refine (show ∀ {W:World} {cs:Array Value} {T:TypeId} {k:Nat},W.heap.size=k→bY (W.alloc (.cells cs T)) k T cs from fun h=>by subst h;exact bY.new _ _ _) (by simp)))) g (by simp));have K:=u.o.cell 2;have b:=O (v.o.trans (g.mono (by simp;omega)));clear g;go_wp2_with fail;go_ret;exact⟨bM f.o.symm,b.o⟩
  ·have C:decide (x.n≤8)=false:=amX h8;have f:=O (show Mist.sized T x=false by rw [y.o,r,C];rfl);go_in
   go_wp2_with fail;refine (yI _ _ _ _ j a l D _).mono ?_;rintro e t⟨rfl,g⟩;have u:=O (show bY t (w.heap.size+1) 56 #[.int .u8 x.kind,.string (aG x.text),.int .i64 x.n,.slice j a l,.int .i64 x.at_] from bY.below (by repeat (first|(with_reducible exact bY.new _ _ _)|(refine (show ∀ {W:World} {cs:Array Value} {T:TypeId} {k:Nat},W.heap.size=k→bY (W.alloc (.cells cs T)) k T cs from fun h=>by subst h;exact bY.new _ _ _) (by simp)))) g (by simp));have K:=u.o.cell 2;have b:=O (v.o.trans (g.mono (by simp;omega)));clear g;go_wp2_with fail;go_ret;exact⟨bM f.o.symm,b.o⟩
 ·have r:decide ((a:Int) - 2≤4)=false:=amX h6;have f:=O (show Mist.sized T x=false by rw [y.o,r];rfl);go_in
  go_wp2_with fail;refine (yI _ _ _ _ j a l D _).mono ?_;rintro e t⟨rfl,g⟩;have b:=O (v.o.trans (g.mono (by simp;omega)));clear g;go_wp2_with fail;go_ret;exact⟨bM f.o.symm,b.o⟩
theorem P9 (T:Tr)(A:Option Addr)(n c:Nat)(B:Option Addr)(m d:Nat)(x:Nd)(f:Option Addr)(a g:Nat)(b:a=x.kids.length)(y:a≤1000000)(w:World)(h:¬ x.kind=40)(h41:¬ x.kind=41)(h42:¬ x.kind=42)(h33:¬ x.kind=33)(h26:¬ x.kind=26)(h46:¬ x.kind=46) :
  Calls Tryz.prog 73 #[.agg #[.slice A n c,.slice B m d],.agg #[.int .u8 x.kind,.string (aG x.text),.int .i64 x.n,.slice f a g,.int .i64 x.at_]] w fun e v=>e=.returned (.bool (Mist.sized T x))∧Below w.heap.size w v:=by
 have q:((x.kind:Int) == 40)=false:=by rw [amH];omega
 have r:((x.kind:Int) == 41)=false:=by rw [amH];omega
 have t:((x.kind:Int) == 42)=false:=by rw [amH];omega
 have l:((x.kind:Int) == 33)=false:=by rw [amH];omega
 have k:((x.kind:Int) == 26)=false:=by rw [amH];omega
 have u:((x.kind:Int) == 46)=false:=by rw [amH];omega
 have j:=O (show Mist.sized T x=true by simp [Mist.sized,h,h41,h42,h33,h26,h46]);clear h h41 h42 h33 h26 h46 b;have i:=O (aU (aU (Below.refl w.heap.size w) (amL _) (o:=.cells #[.slice A n c,.slice B m d] 28)) (by simp) (o:=.cells #[.int .u8 x.kind,.string (aG x.text),.int .i64 x.n,.slice f a g,.int .i64 x.at_] 56));go_in
 go_wp2;go_ret;exact⟨bM j.o.symm,i.o⟩
theorem ac6 (xs:List NV)(f:List Int)(b o n c:Nat)(B:Option Addr)(m d:Nat)(x:Nd)(C:Option Addr)(A E:Nat)(w:World)(v:sN w b o xs)(H:n=xs.length)(k:x.kind=40)(F:oJ ⟨aH xs,f⟩ x)(t:A=x.kids.length)(G:IntsIn w C x.kids) :
  Calls Tryz.prog 73 #[.agg #[.slice (some ⟨b,o,none⟩) n c,.slice B m d],.agg #[.int .u8 x.kind,.string (aG x.text),.int .i64 x.n,.slice C A E,.int .i64 x.at_]] w fun e w'=>e=.returned (.bool (Mist.sized ⟨aH xs,f⟩ x))∧Below w.heap.size w w':=by
 obtain⟨k0,u,g,h0,h1,D,b1⟩:=F k;rw [dK,← H] at h0 h1
 obtain⟨I,l⟩:=nE (xs:=xs) (i:=k0) (by omega);obtain⟨J,q⟩:=nE (xs:=xs) (i:=u) (by omega);rw [bD f l] at D
 rw [bD f q] at b1
 obtain⟨M,h⟩:∃ a,a=I.1.n:=⟨_,rfl⟩;obtain⟨N,j⟩:∃ a,a=J.1.n:=⟨_,rfl⟩;rw [← h] at D
 rw [← j] at b1
 have L:=O (show Mist.sized ⟨aH xs,f⟩ x=Mist.within (N - M+1) 1 12 by
  simp only [Mist.sized,k,if_true];rw [g];simp only [List.getD_cons_succ,List.getD_cons_zero,amS];rw [bD f l,bD f q,h,j])
 have Q:=v.c2 k0 I l;have c1:=v.c2 u J q;rw [← h] at Q
 rw [← j] at c1
 obtain⟨P,ok,rfl,Y,r⟩:=G.ex (by rw [g];simp);have R:=r 0 k0 (by rw [g];rfl);have d1:=r 1 u (by rw [g];rfl);rw [Nat.add_zero] at R
 have y:A=2:=by rw [t,g];rfl
 subst y;have Z:=v.lt;have U:((x.kind:Int) == 40)=true:=by rw [k];rfl
 have V:((x.kind:Int) == 41)=false:=by rw [k];rfl
 have W:((x.kind:Int) == 42)=false:=by rw [k];rfl
 have T:((x.kind:Int) == 33)=false:=by rw [k];rfl
 have S:((x.kind:Int) == 26)=false:=by rw [k];rfl
 have X:((x.kind:Int) == 46)=false:=by rw [k];rfl
 clear k t r g l q h j v G H F;have i0:(0:Int)≤(k0:Int):=by omega
 have i1:(k0:Int) < (n:Int):=by omega
 have j0:(0:Int)≤(u:Int):=by omega
 have j1:(u:Int) < (n:Int):=by omega
 have K:=O (aU (aU (Below.refl w.heap.size w) (amL _) (o:=.cells #[.slice (some ⟨b,o,none⟩) n c,.slice B m d] 28)) (by simp) (o:=.cells #[.int .u8 x.kind,.string (aG x.text),.int .i64 x.n,.slice (some ⟨P,ok,none⟩) 2 E,.int .i64 x.at_] 56));go_in
 go_wp2_with fail;go_quiet (fail)
 go_wp2_with fail;refine (dO _ 1 12 _ rfl _).mono ?_;rintro e w2⟨rfl,rfl⟩;go_wp2_with fail;go_ret;exact⟨bM L.o.symm,mJ K.o _⟩
theorem YP (xs:List NV)(h:List Int)(A:Option Addr)(n c:Nat)(B:Option Addr)(m d:Nat)(x:Nd)(g:Option Addr)(f i:Nat)(w:World)(t:uZ w A B xs h)(u:n=xs.length)(l:oJ ⟨aH xs,h⟩ x)(a:f=x.kids.length)(j:f≤1000000)(q:IntsIn w g x.kids) :
  Calls Tryz.prog 73 #[.agg #[.slice A n c,.slice B m d],.agg #[.int .u8 x.kind,.string (aG x.text),.int .i64 x.n,.slice g f i,.int .i64 x.at_]] w fun e v=>e=.returned (.bool (Mist.sized ⟨aH xs,h⟩ x))∧Below w.heap.size w v:=by
 by_cases k:x.kind=40
 ·obtain⟨k0,y,_,h0,_⟩:=l k;rw [dK] at h0
  obtain⟨b,o,rfl,r⟩:=t.nodes (by omega);exact ac6 xs h b o n c B m d x g f i w r u k l a q
 by_cases h41:x.kind=41
 ·exact ac7 _ A n c B m d x g f i a j w h41
 by_cases h42:x.kind=42
 ·exact ac8 _ A n c B m d x g f i a j w h42
 by_cases h33:x.kind=33
 ·exact ac5 _ A n c B m d x g f i a j w h33
 by_cases h26:x.kind=26
 ·exact ac4 _ A n c B m d x g f i a j w h26
 by_cases h46:x.kind=46
 ·exact ac9 _ A n c B m d x g f i a j w h46
 exact P9 _ A n c B m d x g f i a j w k h41 h42 h33 h26 h46
end
