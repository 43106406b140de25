/-
  A part of the proof.
-/
import Derived.Test.YthepmkjggfijoaaGreatDoorSA
import Derived.BigQuiet
import Derived.Test.YthepmkjggfijoaaGreatDoorS31
import Derived.Test.YthepmkjggfijoaaGreatDoorS32
import Derived.Test.YthepmkjggfijoaaGreatDoorCards
import Derived.Test.YthepmkjggfijoaaGreatDoorJ10
import Derived.Test.YthepmkjggfijoaaGreatDoorJ13
import Derived.Test.YthepmkjggfijoaaGreatDoorJ14
import Derived.Test.YthepmkjggfijoaaGreatDoorJ15
set_option linter.all false
set_option maxRecDepth 100000
set_option maxHeartbeats 4000000
namespace Go.Proofs.YthepmkjggfijoaaGreatDoor
open Go.RowKit Mist
attribute [local go_sem] aj aH aS aB ak
theorem Ho (A B:Option Addr)(c d:Nat)(ks a:List Int)(w:World)(k:IntsIn w A ks)(l:IntsIn w B a)(r:ks.length≤1000000)(t:a.length≤1000000) :
  Calls Tryz.prog 88 #[.slice A ks.length c,.slice B a.length d] w fun e f=>e=.returned (.bool (decide (ks=a)))∧Below w.heap.size w f:=by
 by_cases h:ks.length=a.length
 ·by_cases h0:ks.length=0
  ·have g:ks=[]:=List.length_eq_zero_iff.1 h0;have i:a=[]:=List.length_eq_zero_iff.1 (h ▸ h0);subst g;subst i;refine (Tryz.slices_Equal_int_empty A B c 0 d w (by omega)).mono ?_;rintro e f ⟨rfl,rfl⟩;exact⟨by simp,Below.refl _ _⟩
  ·obtain⟨b1,m,rfl,_,h1⟩:=k.ex (by omega);obtain⟨b2,n,rfl,_,h2⟩:=l.ex (by omega);refine (Tryz.slices_Equal_int b1 m ks.length c b2 n a.length d ks a w (aaJ _) (aaJ _) (by omega) (by omega) (fun j b=>?_) (fun j b=>?_)).mono ?_
   ·rw [h1 j ks[j] (aaD b)];simp [aaH,b]
   ·rw [h2 j a[j] (aaD b)];simp [aaH,b]
   ·rintro e f ⟨rfl,q,rfl⟩
    refine⟨?_,gU (Below.refl _ _) _⟩
    rw [List.take_length,List.take_length]
    congr 2
    rw [aaI];simp
 ·refine (Tryz.slices_Equal_int_lens A B ks.length c a.length d w h).mono ?_;rintro e f ⟨rfl,rfl⟩
  refine⟨?_,Below.refl _ _⟩
  rw [aaV (fun e=>h (by rw [e]))]
theorem R6 (x y:Nd)(A B:Option Addr)(c d:Nat)(w:World)(k:IntsIn w A x.kids)(l:IntsIn w B y.kids)(C:x.kids.length≤1000000)(D:y.kids.length≤1000000) :
  Calls Tryz.prog 87 #[.agg #[.int .u8 x.kind,.string (aM x.text),.int .i64 x.n,.slice A x.kids.length c,.int .i64 x.at_],.agg #[.int .u8 y.kind,.string (aM y.text),.int .i64 y.n,.slice B y.kids.length d,.int .i64 y.at_]] w fun e F=>e=.returned (.bool (decide (eU x=eU y)))∧Below w.heap.size w F:=by
 have b:=O (ah (ah (Below.refl w.heap.size w) (aaJ _) (o:=.cells #[.int .u8 x.kind,.string (aM x.text),.int .i64 x.n,.slice A x.kids.length c,.int .i64 x.at_] 50)) (by simp) (o:=.cells #[.int .u8 y.kind,.string (aM y.text),.int .i64 y.n,.slice B y.kids.length d,.int .i64 y.at_] 50));have g:=O fun W (m:Below w.heap.size w W)=>Ho A B c d x.kids y.kids W (k.below m) (l.below m) C D
 have a:∀ {p:Prop},(eU x=eU y→p)→¬ p→decide (eU x=eU y)=false:=fun h E=>aaV (fun e=>E (h e))
 clear k l;by_cases h1:x.kind=y.kind
 case neg =>
  have t:((x.kind:Int) == (y.kind:Int))=false:=by rw [aaF];omega
  have f:=O (a (p:=x.kind=y.kind) (fun e=>by have h9:=congrArg Nd.kind e;exact h9) h1);clear h1 a;go_in
  go_wp2_with fail;go_ret;exact⟨by rw [f.o];rfl,b.o⟩
 have t:((x.kind:Int) == (y.kind:Int))=true:=by simp [h1]
 by_cases h2:x.text=y.text
 case neg =>
  have u:(x.text == y.text)=false:=by simpa using h2
  have f:=O (a (p:=x.text=y.text) (fun e=>by have h9:=congrArg Nd.text e;exact h9) h2);have j:=O h1;clear h1 a;go_in
  go_wp2_with fail;go_ret;exact⟨by rw [f.o];rfl,b.o⟩
 have u:(x.text == y.text)=true:=by simpa using h2
 by_cases h3:x.n=y.n
 case neg =>
  have v:(x.n == y.n)=false:=by simpa using h3
  have f:=O (a (p:=x.n=y.n) (fun e=>by have h9:=congrArg Nd.n e;exact h9) h3);have j:=O h1;have q:=O h2;clear h1 h2 h3 a;go_in
  go_wp2_with fail;go_ret;exact⟨by rw [f.o];rfl,b.o⟩
 have v:(x.n == y.n)=true:=by simpa using h3
 have r:=O (show decide (eU x=eU y)=decide (x.kids=y.kids) by
  congr 1
  unfold eU;rw [h1,h2,h3];simp)
 have j:=O h1;have q:=O h2;have G:=O h3;clear h1 h2 h3 a;go_in
 go_wp2_with fail;refine (g.o _ b.o).mono ?_;rintro e w1⟨rfl,i⟩;go_wp2_with fail;go_ret;exact⟨by rw [r.o];first | rfl | simp,b.o.trans (i.mono b.o.size)⟩
theorem Rw (A B A' B':Option Addr)(c c':Nat)(xs ys:List NV)(its iB:List Int)(w:World)(hT:mq w A B xs its)(hU:mq w A' B' ys iB)(m:xs.length≤100000)(hy:ys.length≤100000) :
  Calls Tryz.prog 86 #[.slice A xs.length c,.slice A' ys.length c',.func (.func 87) #[] #[]] w fun e w'=>e=.returned (.bool (decide ((aA xs).map eU=(aA ys).map eU)))∧Below w.heap.size w w':=by
 obtain⟨n,v⟩:∃ n,n=xs.length:=⟨_,rfl⟩;obtain⟨n',M⟩:∃ n,n=ys.length:=⟨_,rfl⟩;rw [← v] at m ⊢
 rw [← M] at hy ⊢
 have HT:=O hT;clear hT;have HU:=O hU;clear hU;have K:=O v;clear v;have L:=O M;clear M;go_in
 by_cases S:n=n'
 case neg =>
  have q1:((n:Int) != (n':Int))=true:=by simp;omega
  have N:=O (show decide ((aA xs).map eU=(aA ys).map eU)=false from aaV fun h=>S (by have:=congrArg List.length h;simp only [List.length_map,aD] at this;rw [K.o,L.o];exact this));clear S;go_wp2_with fail;go_ret;exact⟨by rw [N.o];rfl,Below.refl _ _⟩
 subst S;have q1:((n:Int) != (n:Int))=false:=by simp
 go_wp2_with fail;go_loopw [17] (fun i wr=>∃ k:Nat,k≤n∧i=.int .i64 k∧Hid (((aA xs).take k).map eU=((aA ys).take k).map eU)∧Hid (Below w.heap.size w wr)) (fun i _=>n - (intOf i).toNat)
 case atStart=>exact⟨0,aaL _,rfl,O rfl,O (Below.refl _ _)⟩
 case round =>
  obtain⟨t,rfl⟩:∃ t:World,t=wr:=⟨_,rfl⟩;obtain⟨k,hk,rfl,V,a⟩:=hrel;by_cases q:k < n
  ·have i3:decide (k < n)=true:=aaU q;obtain⟨b,o,rfl,f⟩:=HT.o.nodes (by rw [← K.o];omega);obtain⟨C,J,rfl,g⟩:=HU.o.nodes (by rw [← L.o];omega);obtain⟨x,m⟩:∃ x,xs[k]? = some x:=jD (by rw [← K.o];exact q);obtain⟨y,hy⟩:∃ y,ys[k]? = some y:=jD (by rw [← L.o];exact q);have c0:=(a.o.cell (p:=⟨b,o+k * 5,none⟩) f.lt).trans (f.c0 k x m);have c1:=(a.o.cell (p:=⟨b,o+k * 5+1,none⟩) f.lt).trans (f.c1 k x m);have c2:=(a.o.cell (p:=⟨b,o+k * 5+2,none⟩) f.lt).trans (f.c2 k x m);have c3:=(a.o.cell (p:=⟨b,o+k * 5+3,none⟩) f.lt).trans (f.c3 k x m);have c4:=(a.o.cell (p:=⟨b,o+k * 5+4,none⟩) f.lt).trans (f.c4 k x m);have d0:=(a.o.cell (p:=⟨C,J+k * 5,none⟩) g.lt).trans (g.c0 k y hy);have d1:=(a.o.cell (p:=⟨C,J+k * 5+1,none⟩) g.lt).trans (g.c1 k y hy);have d2:=(a.o.cell (p:=⟨C,J+k * 5+2,none⟩) g.lt).trans (g.c2 k y hy);have d3:=(a.o.cell (p:=⟨C,J+k * 5+3,none⟩) g.lt).trans (g.c3 k y hy);have d4:=(a.o.cell (p:=⟨C,J+k * 5+4,none⟩) g.lt).trans (g.c4 k y hy);obtain⟨Y,ca,F,T,G⟩:=f.kid m;obtain⟨Z,cb,H,U,I⟩:=g.kid hy;rw [F] at c3
   rw [H] at d3
   have Rh:=O (gP m);have E:=O (gP hy);have hb1:b < t.heap.size:=aaW f.lt a.o.size;have hb2:C < t.heap.size:=aaW g.lt a.o.size;have X:=O fun W (hb:Below t.heap.size t W)=>R6 x.1 y.1 Y Z ca cb W ((G.below a.o).below hb) ((I.below a.o).below hb) T U
   clear f g m hy F H G I;have z0:(0:Int)≤(k:Int):=by omega
   have z1:(k:Int) < (n:Int):=by omega
   have d:=O (ah (ah (Below.refl t.heap.size t) (aaJ _) (o:=.cells #[.int .u8 x.1.kind,.string (aM x.1.text),.int .i64 x.1.n,.slice Y x.1.kids.length ca,.int .i64 x.1.at_] 50)) (by simp) (o:=.cells #[.int .u8 y.1.kind,.string (aM y.1.text),.int .i64 y.1.n,.slice Z y.1.kids.length cb,.int .i64 y.1.at_] 50));by_cases D:eU x.1=eU y.1
   ·have R:=O (show decide (eU x.1=eU y.1)=true from aaU D)
    have P:=O (show ((aA xs).take (k+1)).map eU=((aA ys).take (k+1)).map eU by
     rw [List.take_add_one,List.take_add_one,Rh.o,E.o,List.map_append,List.map_append,V.o];simp [D])
    clear D;go_wp2_with fail;refine (X.o _ d.o).mono ?_;rintro e w2⟨rfl,j⟩;rw [R.o];have u:=O (a.o.trans ((d.o.trans (j.mono d.o.size)).mono a.o.size));clear j;go_wp2_with fail;exact⟨⟨k+1,by omega,by go_num,P,u⟩,by simp [intOf];omega⟩
   ·have R:=O (show decide (eU x.1=eU y.1)=false from aaV D)
    have N:=O (show decide ((aA xs).map eU=(aA ys).map eU)=false from aaV fun h=>by
     refine FP (l:=(aA xs).map eU) (r:=(aA ys).map eU) (k:=k) ?_ ?_ D h
     ·rw [List.getElem?_map,Rh.o];rfl
     ·rw [List.getElem?_map,E.o];rfl)
    clear D;go_wp2_with fail;refine (X.o _ d.o).mono ?_;rintro e w2⟨rfl,j⟩;rw [R.o];have u:=O (a.o.trans ((d.o.trans (j.mono d.o.size)).mono a.o.size));clear j;go_wp2_with fail;go_ret;exact⟨by rw [N.o];rfl,u.o⟩
  ·have i3:decide (k < n)=false:=aaV q
   have Q:=O (show decide ((aA xs).map eU=(aA ys).map eU)=true from aaU (by
    have h9:=V.o
    rwa [aaN (by rw [aD,← K.o];omega),aaN (by rw [aD,← L.o];omega)] at h9))
   go_wp2_with fail;go_ret;exact⟨by rw [Q.o];rfl,a.o⟩
def two (T U:Tr):Int:=if dN T ≠ 0 then dN T else dN U
def Zo (T U:Tr):Bool × Int:=if two T U ≠ 0 then (false,two T U) else (decide (T.nodes.map eU=U.nodes.map eU) && decide (T.items=U.items),0)
theorem Gy (A B A' B':Option Addr)(c d G H g:Nat)(xs ys:List NV)(its iB:List Int)(w:World)(R:mq w A B xs its)(S:mq w A' B' ys iB)(Q:xO (aA xs))(hS:xO (aA ys))(L:Env w)(V:aC w g 26 #[.slice A xs.length c,.slice B its.length d,.slice A' ys.length G,.slice B' iB.length H]) :
  Calls Tryz.prog 85 #[.slice (some ⟨g,0,none⟩) 2 2] w fun e Z=>e=.returned (.int .i64 (two ⟨aA xs,its⟩ ⟨aA ys,iB⟩))∧Below w.heap.size w Z:=by
 have I:=O fun W (D:Below w.heap.size w W)=>jk A B c d xs its W (R.below D) Q (L.below D)
 have J:=O fun W (D:Below w.heap.size w W)=>jk A' B' G H ys iB W (S.below D) hS (L.below D)
 obtain⟨T,X⟩:∃ T:Tr,T=⟨aA xs,its⟩:=⟨_,rfl⟩;obtain⟨U,P⟩:∃ U:Tr,U=⟨aA ys,iB⟩:=⟨_,rfl⟩;rw [← X] at I ⊢
 rw [← P] at J ⊢
 clear X P R S Q hS L;have N:=O V;clear V;obtain⟨p,j⟩:∃ p,p=dN T:=⟨_,rfl⟩;obtain⟨q,m⟩:∃ q,q=dN U:=⟨_,rfl⟩;have t:=O (show two T U=if p ≠ 0 then p else q by unfold two;rw [j,m]);rw [← j] at I
 rw [← m] at J
 clear j m;go_in
 go_wp2_with fail;go_loopw [8] (fun i wr=>∃ k:Nat,k≤2∧i=.int .i64 k∧(0 < k→p=0)∧(1 < k→q=0)∧Hid (aC wr g 26 #[.slice A xs.length c,.slice B its.length d,.slice A' ys.length G,.slice B' iB.length H])∧Hid (Below w.heap.size w wr)) (fun i _=>2 - (intOf i).toNat)
 case atStart=>exact⟨0,by omega,rfl,fun h=>absurd h (by omega),fun h=>absurd h (by omega),N,O (Below.refl _ _)⟩
 case round =>
  clear N;obtain⟨x,rfl⟩:∃ x:World,x=wr:=⟨_,rfl⟩;obtain⟨k,hk,rfl,l,v,n,y⟩:=hrel;have t0:=n.o.cell 0;have t1:=n.o.cell 1;have t2:=n.o.cell 2;have t3:=n.o.cell 3;have M:k=0∨k=1∨k=2:=by omega
  rcases M with rfl | rfl | rfl
  ·have b:=O (ah (Below.refl x.heap.size x) (aaJ _) (o:=.cells #[.slice A xs.length c,.slice B its.length d] 26));have a:=O (y.o.trans (b.o.mono y.o.size));go_wp2_with fail;refine (I.o _ a.o).mono ?_;rintro e w2⟨rfl,f⟩;have E:=O (a.o.trans (f.mono a.o.size));have u:=O (b.o.trans (f.mono b.o.size));clear f;by_cases j:p=0
   ·have K:(p != 0)=false:=by simp [j]
    have r:=O (n.o.below u.o n.o.lt);have F:=O j;clear j;go_wp2_with fail;exact⟨⟨1,by omega,rfl,fun _=>F.o,fun h=>absurd h (by omega),r,E⟩,by simp [intOf]⟩
   ·have K:(p != 0)=true:=by simpa using j
    have C:=O (show two T U=p by rw [t.o,if_pos j]);clear j;go_wp2_with fail;go_ret;exact⟨by rw [C.o];rfl,E.o⟩
  ·have j:=l (by omega);have F:=O j;have b:=O (ah (Below.refl x.heap.size x) (aaJ _) (o:=.cells #[.slice A' ys.length G,.slice B' iB.length H] 26));have a:=O (y.o.trans (b.o.mono y.o.size));clear l v j;go_wp2_with fail;refine (J.o _ a.o).mono ?_;rintro e w2⟨rfl,f⟩;have E:=O (a.o.trans (f.mono a.o.size));have u:=O (b.o.trans (f.mono b.o.size));clear f;by_cases m:q=0
   ·have K:(q != 0)=false:=by simp [m]
    have r:=O (n.o.below u.o n.o.lt);have Y:=O m;clear m;go_wp2_with fail;exact⟨⟨2,by omega,rfl,fun _=>F.o,fun _=>Y.o,r,E⟩,by simp [intOf]⟩
   ·have K:(q != 0)=true:=by simpa using m
    have C:=O (show two T U=q by rw [t.o,if_neg (by rw [F.o];simp)]);clear m;go_wp2_with fail;go_ret;exact⟨by rw [C.o];rfl,E.o⟩
  ·have C:=O (show two T U=0 by rw [t.o,if_neg (by rw [l (by omega)];simp),v (by omega)]);clear l v;go_wp2_with fail;go_ret;exact⟨by rw [C.o];rfl,y.o⟩
theorem equal3_any (A B A' B':Option Addr)(c d a b:Nat)(xs ys:List NV)(its iB:List Int)(w:World)(F:mq w A B xs its)(G:mq w A' B' ys iB)(Q:xO (aA xs))(hS:xO (aA ys))(P:Env w)(R:xs.length≤100000)(hy:ys.length≤100000)(hi:its.length≤100000)(Z:iB.length≤100000) :
  Calls Tryz.prog 47 #[.agg #[.slice A xs.length c,.slice B its.length d],.agg #[.slice A' ys.length a,.slice B' iB.length b]] w fun e w'=>e=.returned (.tuple #[.bool (Zo ⟨aA xs,its⟩ ⟨aA ys,iB⟩).1,.int .i64 (Zo ⟨aA xs,its⟩ ⟨aA ys,iB⟩).2])∧Below w.heap.size w w':=by
 have q:=O fun W (j:Below w.heap.size w W) g hg=>Gy A B A' B' c d a b g xs ys its iB W (F.below j) (G.below j) Q hS (P.below j) hg
 have H:=O fun W (j:Below w.heap.size w W)=>Rw A B A' B' c a xs ys its iB W (F.below j) (G.below j) R hy
 have I:=O fun W (j:Below w.heap.size w W)=>Ho B B' d b its iB W (F.below j).items (G.below j).items (by omega) (by omega)
 obtain⟨T,M⟩:∃ T:Tr,T=⟨aA xs,its⟩:=⟨_,rfl⟩;obtain⟨U,J⟩:∃ U:Tr,U=⟨aA ys,iB⟩:=⟨_,rfl⟩;have f:=O (show Zo T U=if two T U ≠ 0 then (false,two T U) else (decide ((aA xs).map eU=(aA ys).map eU) && decide (its=iB),0) by rw [M,J];rfl);rw [← M,← J] at q ⊢
 clear M J F G Q hS P R hy hi Z;have n:=O (((aC.new w 26 #[.slice A xs.length c,.slice B its.length d]).alloc (.cells #[.slice A' ys.length a,.slice B' iB.length b] 26)).alloc (.cells #[.slice A xs.length c,.slice B its.length d,.slice A' ys.length a,.slice B' iB.length b] 26));have K:=O ((dL (W:=w.alloc (.cells #[.slice A xs.length c,.slice B its.length d] 26)) (T:=26) (cs:=#[.slice A' ys.length a,.slice B' iB.length b]) (k:=w.heap.size+1) (by simp)).alloc (.cells #[.slice A xs.length c,.slice B its.length d,.slice A' ys.length a,.slice B' iB.length b] 26));have N:=O (dL (W:=(w.alloc (.cells #[.slice A xs.length c,.slice B its.length d] 26)).alloc (.cells #[.slice A' ys.length a,.slice B' iB.length b] 26)) (T:=26) (cs:=#[.slice A xs.length c,.slice B its.length d,.slice A' ys.length a,.slice B' iB.length b]) (k:=w.heap.size+1+1) (by simp));have D:=O (ah (ah (ah (Below.refl w.heap.size w) (aaJ _) (o:=.cells #[.slice A xs.length c,.slice B its.length d] 26)) (by simp) (o:=.cells #[.slice A' ys.length a,.slice B' iB.length b] 26)) (by simp;omega) (o:=.cells #[.slice A xs.length c,.slice B its.length d,.slice A' ys.length a,.slice B' iB.length b] 26));go_in
 go_wp2_with fail;refine (q.o _ D.o _ N.o).mono ?_;rintro e w1⟨rfl,l⟩;have t:=O (n.o.below l n.o.lt);have v:=O (K.o.below l K.o.lt);have x:=O (D.o.trans (l.mono D.o.size));clear l n K N D q;have S:=t.o.cell 0;have V:=t.o.cell 1;have X:=v.o.cell 0;have Y:=v.o.cell 1;obtain⟨E,C⟩:∃ E,E=two T U:=⟨_,rfl⟩;rw [← C] at f ⊢
 clear C;by_cases i:E=0
 case neg =>
  have e1:(E != 0)=true:=by simpa using i
  have y:=O (show Zo T U=(false,E) by rw [f.o,if_pos i]);clear i;go_wp2_with fail;go_ret2
  exact⟨by rw [y.o];rfl,x.o⟩
 subst i;have y:=O (show Zo T U=(decide ((aA xs).map eU=(aA ys).map eU) && decide (its=iB),0) by rw [f.o,if_neg (by simp)]);clear f;go_wp2_with fail;refine (H.o _ x.o).mono ?_;rintro e w2⟨rfl,m⟩;have u:=O (t.o.below m t.o.lt);have q:=O (v.o.below m v.o.lt);have h:=O (x.o.trans (m.mono x.o.size));clear m t v x S V X Y;have S:=u.o.cell 0;have V:=u.o.cell 1;have X:=q.o.cell 0;have Y:=q.o.cell 1
 generalize decide ((aA xs).map eU=(aA ys).map eU)=r at y ⊢
 cases r
 ·go_wp2_with fail;go_ret2
  exact⟨by rw [y.o];rfl,h.o⟩
 ·go_wp2_with fail;refine (I.o _ h.o).mono ?_;rintro e w3⟨rfl,L⟩;go_wp2_with fail;go_ret2
  exact⟨by rw [y.o];first | rfl | simp,h.o.trans (L.mono h.o.size)⟩
theorem equal_fineT {T U:Tr}(F:dX T)(G:dX U)(t:T.nodes.map strip=U.nodes.map strip)(hi:T.items=U.items){W:World}{A B A' B':Option Addr}(c d b f n m:Nat){xs ys:List NV}(q:mq W A B xs T.items)(r:mq W A' B' ys T.items)(h1:aA xs=T.nodes)(h2:aA ys=U.nodes)(g:xs.length=n)(a:ys.length=n)(v:T.items.length=m)(l:Env W) :
  Calls Tryz.prog 47 #[.agg #[.slice A n c,.slice B m d],.agg #[.slice A' n b,.slice B' m f]] W fun e w=>e=.returned (.tuple #[.bool true,.int .i64 0])∧Below W.heap.size W w:=by
 have x:=F.few;have u:=F.itf;have y:T.nodes.length=n:=by rw [← h1,aD,g]
 have h:=equal3_any A B A' B' c d b f xs ys T.items T.items W q r (by rw [h1];exact F.check.2) (by rw [h2];exact G.check.2) l (by omega) (by omega) (by omega) (by omega)
 have i:Zo ⟨aA xs,T.items⟩ ⟨aA ys,T.items⟩=(true,0):=by
  have j:two ⟨aA xs,T.items⟩ ⟨aA ys,T.items⟩=0:=by
   unfold two;rw [show (⟨aA xs,T.items⟩:Tr)=T by rw [h1],show (⟨aA ys,T.items⟩:Tr)=U by rw [h2,hi],F.check.1,G.check.1];rfl
  unfold Zo;rw [if_neg (by rw [j];simp)];have k:(aA xs).map eU=(aA ys).map eU:=by rw [h1,h2];exact t
  simp [k]
 rw [i,g,a,v] at h
 exact h
theorem grown_law (Y:Bs)(lv:Value)(w:World)(hE:Env w)(hP:Pow w)(hS:SeedIn w w.heap.size lv Y) :
  Calls Tryz.prog 14 #[lv] w fun e w'=>e=.returned (.bool true)∧Below w.heap.size w w':=by
 have HE:=O hE;clear hE;have HGR:=O (grow_any false Y lv w hP hS);have HPW:=O hP;have HSD:=O hS;obtain⟨A0,c0,rfl,_⟩:=id hS;clear hS hP;go_in
 go_wp2_with fail;refine HGR.o.mono ?_;rintro e w1⟨hb1,A,B,c,d,xs,rfl,hns,hT⟩;have HB1:=O hb1;have HT0:=O hT;have rC:=O hns;clear hb1 hT hns HGR
 cases X:grownOk (grownText false Y)
 case false =>
  clear X;have M:=O (ah HB1.o HB1.o.size (o:=.cells #[.slice A xs.length c,.slice B (grown false Y).ix.length d] 26));go_wp2_with fail;refine (rV _ (HE.o.below M.o)).mono ?_;rintro e w2⟨rfl,K⟩;have HL2:=O (M.o.trans (K.mono M.o.size));clear K;go_wp2_with fail;go_ret;exact⟨by first | rfl | simp,HL2.o⟩
 obtain⟨T,G⟩:=grown_is false Y X;have k:=O G;clear X G;obtain⟨n,hn⟩:∃ n,n=T.nodes.length:=⟨_,rfl⟩;obtain⟨m,hm⟩:∃ m,m=T.items.length:=⟨_,rfl⟩;have hxl:xs.length=n:=by rw [hn,← List.length_map (f:=strip),k.o.bare,← aD,rC.o];rfl
 have hil:(grown false Y).ix.length=m:=by rw [hm,k.o.items];rfl
 have hn8:n≤800:=by rw [hn];exact k.o.fine.few
 have hm8:m≤12:=by rw [hm];exact k.o.fine.itf
 have HN:=O hn.symm;have HM:=O hm.symm;have HXL:=O hxl;have HIL:=O hil;rw [hxl,hil]
 have hTA:mq w1 A B xs T.items:=by
  rw [k.o.items];exact HT0.o fun x hx=>k.o.own.good.kids x.1 (by
  show x.1 ∈ (grown false Y).st.ns
  rw [← rC.o];exact List.mem_map.2 ⟨x,hx,rfl⟩)
 clear hn hm hxl hil HT0;have HB2:=O (ah HB1.o HB1.o.size (o:=.cells #[.slice A n c,.slice B m d] 26));have Lx:=O (hTA.below (ah (Below.refl w1.heap.size w1) (aaJ _) (o:=.cells #[.slice A n c,.slice B m d] 26)));have rE:=O (aC.new w1 26 #[.slice A n c,.slice B m d]);have htb:=HB1.o.size;clear hTA HB1;go_wp2_with fail
 generalize w1.alloc (.cells #[.slice A n c,.slice B m d] 26)=w2 at HB2 Lx rE ⊢
 generalize w1.heap.size=tb at rE htb ⊢
 refine (grown_parse k.o _ (HE.o.below HB2.o)).mono ?_;rintro e w3⟨hb3,A2,B2,c2,d2,ys,rfl,hys,hT2⟩;rw [HN.o,HM.o];have HB3:=O (HB2.o.trans (hb3.mono HB2.o.size));have HTA3:=O (Lx.o.below hb3);have HTB3:=O (rE.o.below hb3 rE.o.lt);have HU3:=O hT2;have J:=O hys;clear hb3 hT2 hys Lx rE;have tO:=O (ah HB3.o HB3.o.size (o:=.cells #[.slice A2 n c2,.slice B2 m d2] 26));have HTA4:=O (HTA3.o.below (ah (Below.refl w3.heap.size w3) (aaJ _) (o:=.cells #[.slice A2 n c2,.slice B2 m d2] 26)));have HU4:=O (HU3.o.below (ah (Below.refl w3.heap.size w3) (aaJ _) (o:=.cells #[.slice A2 n c2,.slice B2 m d2] 26)));have H:=O (HTB3.o.alloc (.cells #[.slice A2 n c2,.slice B2 m d2] 26));have HUB4:=O (aC.new w3 26 #[.slice A2 n c2,.slice B2 m d2]);have t0:=H.o.cell 0;have t1:=H.o.cell 1;clear HTA3 HU3 HB3;go_wp2_with fail;have hyl:ys.length=n:=by rw [← aD,J.o,HN.o]
 have HYL:=O hyl;clear hyl
 refine (bare_any A B A2 B2 c d c2 d2 n m xs ys T.items _ HTA4.o HU4.o (by
  have e:(grown false Y).st.ns=T.nodes.map strip:=k.o.bare.symm;rw [J.o,rC.o,e,List.map_map];rfl) HXL.o HYL.o HM.o (by omega) (by omega)).mono ?_
 rintro e w5⟨rfl,h⟩;have cu:=O (tO.o.trans (h.mono tO.o.size));have HU5:=O (HU4.o.below h);have HTB5:=O (H.o.below h H.o.lt);have I:=O (HUB4.o.below h HUB4.o.lt);clear h tO HU4 H HUB4 HTA4 t0 t1;have u0:=I.o.cell 0;have u1:=I.o.cell 1;go_wp2_with fail;refine (own_fineT k.o.fine c2 d2 n m HU5.o J.o HN.o HM.o).mono ?_;rintro e w6⟨h,An,Bn,cn,dn,zs,rfl,hz,D,L,_⟩;have dA:=O (cu.o.trans (h.mono cu.o.size));have HTB6:=O (HTB5.o.below h HTB5.o.lt);have HUB6:=O (I.o.below h I.o.lt);have HU6:=O (HU5.o.below h);have hc:=jk An Bn cn dn zs T.items w6 hz (by rw [D];exact k.o.fine.check.2) (HE.o.below dA.o);rw [L,HM.o,show (⟨aA zs,T.items⟩:Tr)=T by rw [D],k.o.fine.check.1] at hc
 have HC:=O hc;clear h hz D L hc cu HTB5 I HU5 u0 u1;go_wp2_with fail;refine HC.o.mono ?_;rintro e w7⟨rfl,h⟩;have uN:=O (dA.o.trans (h.mono dA.o.size));have HTB7:=O (HTB6.o.below h HTB6.o.lt);have HUB7:=O (HUB6.o.below h HUB6.o.lt);clear h HC dA HTB6 HUB6 HU6;clear k rC J HN HM HXL HIL HYL hn8 hm8;obtain⟨ub,hub⟩:∃ ub,ub=w3.heap.size:=⟨_,rfl⟩;have htu:tb ≠ ub:=by have:=HTB3.o.lt;omega
 have hwu:w.heap.size≤ub:=by have:=HTB3.o.lt;omega
 rw [← hub] at HUB7 ⊢
 clear hub HTB3;go_wp2_with fail;refine (grow_any true Y _ w7 (fun w2 V=>HPW.o w2 (uN.o.trans (V.mono uN.o.size))) ((HSD.o.below uN.o (aaJ _)).up uN.o.size)).mono ?_;rintro e w8⟨tZ,P,Q,p,q,vs,rfl,hvs,hT8⟩;have HB8:=O (uN.o.trans (tZ.mono uN.o.size));have l:=O (HTB7.o.below tZ HTB7.o.lt);have HUB8:=O (HUB7.o.below tZ HUB7.o.lt);have HT8:=O hT8;have HVS:=O hvs;clear tZ hT8 hvs uN HTB7 HUB7;have t0:=l.o.cell 0;have t1:=l.o.cell 1;have f0:=l.o.frozen 0;have f1:=l.o.frozen 1
 cases X:grownOk (grownText true Y)
 case false =>
  clear X;have M:=O (dx (b:=tb) (i:=1) (u:=.slice Q (grown true Y).ix.length q) (dx (b:=tb) (i:=0) (u:=.slice P vs.length p) HB8.o htb) htb);go_wp2_with fail;refine (rV _ (HE.o.below M.o)).mono ?_;rintro e w2⟨rfl,K⟩;have HL2:=O (M.o.trans (K.mono M.o.size));clear K;go_wp2_with fail;go_ret;exact⟨by first | rfl | simp,HL2.o⟩
 obtain⟨T',G⟩:=grown_is true Y X;have k:=O G;clear X G;obtain⟨t,hn⟩:∃ n,n=T'.nodes.length:=⟨_,rfl⟩;obtain⟨E,hm⟩:∃ m,m=T'.items.length:=⟨_,rfl⟩;have hvl:vs.length=t:=by rw [hn,← List.length_map (f:=strip),k.o.bare,← aD,HVS.o];rfl
 have hil:(grown true Y).ix.length=E:=by rw [hm,k.o.items];rfl
 have hn8:t≤800:=by rw [hn];exact k.o.fine.few
 have hm8:E≤12:=by rw [hm];exact k.o.fine.itf
 have HN:=O hn.symm;have HM:=O hm.symm;have HVL:=O hvl;rw [hvl,hil]
 have hTA:mq w8 P Q vs T'.items:=by
  rw [k.o.items];exact HT8.o fun x hx=>k.o.own.good.kids x.1 (by
  show x.1 ∈ (grown true Y).st.ns
  rw [← HVS.o];exact List.mem_map.2 ⟨x,hx,rfl⟩)
 have HTA9:=O (tAt_set2 (u:=.slice P t p) (v:=.slice Q E q) hTA l.o);have HTB9:=O (blkT_set2 (u:=.slice P t p) (v:=.slice Q E q) l.o);have HUB9:=O (blkT_far2 (u:=.slice P t p) (v:=.slice Q E q) HUB8.o (p:=tb) (by omega));have HB9:=O (dx (b:=tb) (i:=1) (u:=.slice Q E q) (dx (b:=tb) (i:=0) (u:=.slice P t p) HB8.o htb) htb);clear hn hm hvl hil hTA HT8;go_wp2_with fail
 generalize (w8.setCell ⟨tb,0,none⟩ (.slice P t p)).setCell ⟨tb,1,none⟩ (.slice Q E q)=w9 at HTA9 HTB9 HUB9 HB9 ⊢
 clear l HUB8 HB8 t0 t1 f0 f1;refine (grown_parse k.o _ (HE.o.below HB9.o)).mono ?_;rintro e Qv⟨h,R,S,r,s,ys',rfl,hys,hT10⟩;rw [HN.o,HM.o];have HB10:=O (HB9.o.trans (h.mono HB9.o.size));have HTB10:=O (HTB9.o.below h HTB9.o.lt);have j:=O (HUB9.o.below h HUB9.o.lt);have N:=O (tAt_set2 (u:=.slice R t r) (v:=.slice S E s) (HTA9.o.below h) j.o);have U:=O (tAt_set2 (u:=.slice R t r) (v:=.slice S E s) hT10 j.o);have g:=O (blkT_set2 (u:=.slice R t r) (v:=.slice S E s) j.o);have a:=O (blkT_far2 (u:=.slice R t r) (v:=.slice S E s) HTB10.o (p:=ub) (by omega));have F:=O (dx (b:=ub) (i:=1) (u:=.slice S E s) (dx (b:=ub) (i:=0) (u:=.slice R t r) HB10.o hwu) hwu);have J:=O hys;have hyl:ys'.length=t:=by rw [← aD,J.o,HN.o]
 have HYL:=O hyl;have u0:=j.o.cell 0;have u1:=j.o.cell 1;have f0:=j.o.frozen 0;have f1:=j.o.frozen 1;clear h hys hyl hT10 HTB9 HUB9 HTA9 HB9;go_upto_region 11 with (fail)
 generalize (Qv.setCell ⟨ub,0,none⟩ (.slice R t r)).setCell ⟨ub,1,none⟩ (.slice S E s)=Et at N U g a F ⊢
 clear HB10 HTB10 j u0 u1 f0 f1;have HOU:=O fun W (V:Below Et.heap.size Et W)=>own_fineT k.o.fine r s t E (U.o.below V) J.o HN.o HM.o
 have hnds:aA vs=(grownTree true Y).nodes:=HVS.o;have HOT:=O fun W (V:Below Et.heap.size Et W)=>own_fineT k.o.own p q t E (by rw [← k.o.items];exact N.o.below V) hnds (by rw [← hnds,aD,HVL.o]) (by rw [← k.o.items];exact HM.o)
 have HEQ:=O fun W (hE:Env W) A B A' B' (c d c' d':Nat) xs ys (h1:mq W A B xs T'.items) (h2:mq W A' B' ys T'.items) e1 e2 l1 l2=>equal_fineT k.o.fine k.o.own (by rw [k.o.bare,← k.o.bare,List.map_map];rfl) k.o.items c d c' d' t E h1 h2 e1 e2 l1 l2 HM.o hE
 have HGI:=O k.o.items;have TB:=O (show (aA vs).map strip=(aA ys').map strip by rw [hnds,J.o,← k.o.bare,List.map_map];rfl);clear hnds k HVS;have t0:=a.o.cell 0;have t1:=a.o.cell 1;have u0:=g.o.cell 0;have u1:=g.o.cell 1
 go_region_held3 (fun w'=>w'.cell? ⟨tb,0,none⟩=some (.slice P t p)∧w'.cell? ⟨tb,1,none⟩=some (.slice Q E q)∧w'.cell? ⟨ub,0,none⟩=some (.slice R t r)∧w'.cell? ⟨ub,1,none⟩=some (.slice S E s))
  (first | go_keep|(go_split_ands;refine⟨?_,?_,?_,?_⟩ <;> assumption))
  ((first
    | (go_at_call_of 29 (Value.slice R t r)
       refine (HOU.o _ (by (repeat (first|(with_reducible exact Below.refl _ _)|(with_reducible refine Below.drew ?_)));done)).mono ?_;rintro e wQ⟨V,An,Bn,cn,dn,zs,rfl,hz,D,L,_⟩;have y:=O (show Below Et.heap.size Et wQ from Below.trans (by (repeat (first|(with_reducible exact Below.refl _ _)|(with_reducible refine Below.drew ?_)));done) V);have HZ:=O hz;have HZN:=O D;have HZL:=O L;have HTB12:=O (a.o.below y.o a.o.lt);have HUB12:=O (g.o.below y.o g.o.lt);clear V hz D L t0 t1 u0 u1;have t0:=HTB12.o.cell 0;have t1:=HTB12.o.cell 1;have u0:=HUB12.o.cell 0;have u1:=HUB12.o.cell 1)
    | (go_at_call_of 29 (Value.slice P t p)
       refine (HOT.o _ (by (repeat (first|(with_reducible exact y.o)|(with_reducible refine Below.drew ?_)));done)).mono ?_;rintro e w13⟨V,acC,Bm,cm,dm,us,rfl,hz,D,L,_⟩;have HB13:=O (show Below Et.heap.size Et w13 from Below.trans (by (repeat (first|(with_reducible exact y.o)|(with_reducible refine Below.drew ?_)));done) (V.mono (by first | exact y.o.size|(have:=y.o.size;simp;omega))));have HZ3:=O (show mq w13 An Bn zs T'.items from mq.below (by (repeat (first|(with_reducible exact HZ.o)|(with_reducible refine mq.below ?_ (Below.drew (Below.refl _ _)))));done) V);have HUS:=O hz;have HUN:=O D;have HUL:=O L;have HTB13:=O (a.o.below HB13.o a.o.lt);have HUB13:=O (g.o.below HB13.o g.o.lt);clear V hz D L t0 t1 u0 u1;have t0:=HTB13.o.cell 0;have t1:=HTB13.o.cell 1;have u0:=HUB13.o.cell 0;have u1:=HUB13.o.cell 1)
    | (go_at_call 47
       have Z:=O (show Below Et.heap.size Et _ from by (repeat (first|(with_reducible exact HB13.o)|(with_reducible refine Below.drew ?_))));refine (HEQ.o _ (HE.o.below (F.o.trans (Z.o.mono F.o.size))) An Bn acC Bm cn dn cm dm zs us (by (repeat (first|(with_reducible exact HZ3.o)|(with_reducible refine mq.below ?_ (Below.drew (Below.refl _ _)))));done) (by rw [HGI.o];(repeat (first|(with_reducible exact HUS.o)|(with_reducible refine mq.below ?_ (Below.drew (Below.refl _ _)))));done) HZN.o HUN.o HZL.o HUL.o).mono ?_;rintro e Tx⟨rfl,V⟩;have C:=O (Z.o.trans (V.mono Z.o.size));have HTB14:=O (a.o.below C.o a.o.lt);have HUB14:=O (g.o.below C.o g.o.lt);clear V Z t0 t1 u0 u1;have t0:=HTB14.o.cell 0;have t1:=HTB14.o.cell 1;have u0:=HUB14.o.cell 0;have u1:=HUB14.o.cell 1)))
 all_goals
  go_wp2_with fail;refine (bare_any P Q R S p q r s t E vs ys' T'.items _ (N.o.below C.o) (U.o.below C.o) TB.o HVL.o HYL.o HM.o (by omega) (by omega)).mono ?_;rintro e JM⟨rfl,h⟩;have HB15:=O (C.o.trans (h.mono C.o.size));have HL15:=O (F.o.trans (HB15.o.mono F.o.size));clear h t0 t1 u0 u1;go_wp2_with fail;refine (rV _ (HE.o.below HL15.o)).mono ?_;rintro e w16⟨rfl,K⟩;have HL16:=O (HL15.o.trans (K.mono HL15.o.size));clear K;go_wp2_with fail;go_ret;exact⟨by first | rfl | simp,HL16.o⟩
end Go.Proofs.YthepmkjggfijoaaGreatDoor
namespace Go.Proofs.YthepmkjggfijoaaGreatDoor
open Go.ChangeShapes Go.WideShapes Go.ChangeAt Go.RowKit Go.MapKept Go.ChangeMaps Mist
theorem grown_lifted (os:Os)(started:os.Started)(H:Type)(enc:TypeId × Value→H) :
  ReturnsInHanded {} Tryz.checked os 14 .any (fun w args=>(Rows.treeGrownSpec.pre enc Tryz.prog Tryz.f14 [] false w args∧laidMetH Tryz.prog Rows.treeGrownRow.laid w)∧sizedMet enc Tryz.prog Tryz.f14 (OpenSpec.ofChange Rows.treeGrownSpec) false w args)
   (Rows.treeGrownSpec.post enc Tryz.prog Tryz.f14 false true false false):=by
 refine returnsInHanded_of_change_and (C:=Tryz.checked) (X:=fun w _=>laidMetH Tryz.prog Rows.treeGrownRow.laid w) (fun _ _ _ A h=>h.of_heap A) own_knob started (by kernel_rfl) Tryz.func14
  (ChangeSpec.witness_shaped (enc:=enc) (C:=Tryz.checked) (os:=os) (X:=fun w _=>laidMetH Tryz.prog Rows.treeGrownRow.laid w) false (World.laidAll Tryz.prog os Rows.treeGrownRow.laid) #[.slice none 0 0] 8 (World.laidAll_os _ _ _)
   (World.shaped_of_ZipB (by kernel_rfl) (by kernel_rfl)) (by kernel_rfl) (by kernel_rfl) (by kernel_rfl)
   (by rw [MakeChecks.laidMetH_plain _ _ _ (by kernel_rfl)];exact laidMet_laidAll _ (by kernel_rfl) (by kernel_rfl))) ?_
 intro W base args n I before b l _ g d _;rw [MakeChecks.laidMetH_plain _ _ _ (by kernel_rfl)] at d
 have r:Env W:=env_of_laid d (by simp [Rows.treeGrownRow]);have a:∀ (j:Nat) t v,Tryz.f14.params[j]? = some t→args[j]? = some v→Value.okWide Tryz.prog W .any base t v:=b;have f:=l;obtain⟨p,q,c,x,rfl,_,_⟩:=l;have k:DataW.TrodAll enc Tryz.prog W 0 (fun _=>true) true Tryz.f14.params.toList args.toList n p:=c;rw [Tryz.params14] at k a
 obtain⟨m,G,rfl,rfl,h0⟩:=trodAll_one k;obtain⟨rfl,rfl⟩:=trodVars_none x;obtain⟨E,i,D⟩:=seed_of_trod (j:=0) (a 0 42 m rfl rfl) h0 g (by rw [Tryz.params14];rfl) rfl;have u:Pow W:=pow_of_laid d (by simp [Rows.treeGrownRow]);have fin:=grown_law E m W r u i.seed;refine fin.mono fun e F ⟨y,B⟩=>?_
 subst y;exact⟨_,rfl,post_true (t:=4) laid_out (by kernel_rfl) rfl (by kernel_rfl) bool_row rfl f B⟩
theorem grown_said:Rows.TreeGrownSaid :=
 OpenClaim.holds_of_wide 14 Tryz.f14 rfl rfl rfl rfl rfl rfl rfl ⟨rfl,rfl,rfl,rfl,rfl⟩ rfl rfl rfl rfl rfl (by kernel_rfl) Tryz.func14 (by kernel_rfl)
  (of_decide_eq_true (by kernel_rfl)) (by unfold Func.isWrapper;first|(rw [if_pos (by decide +kernel)];kernel_rfl)|(rw [if_neg (by decide +kernel)];exact⟨rfl,rfl⟩))
  (fun os started H enc _=>grown_lifted os started H enc)
theorem grown_holds:Rows.TreeGrownCardSaid :=
 Claim7.holds_tied_plain_at .later [] [.data, .data, .data, .sentinel, .sentinel, .listed, .data] true (true, "930e7ddc3c177b6ac6c34496cd3f8d07608127284058b89a41b68245be8bebb1") true grown_said (fun _ h => by cases h) (by kernel_rfl) (fun _ h => by cases h) treeGrown_row_tie rfl ⟨rfl, rfl⟩ (by kernel_rfl) rfl
  (fun f d e b=>by
   obtain rfl : f = 14 := aaP ((show Tryz.prog.funcNamed "mist/mistlaw03.TreeGrown" = some 14 by kernel_rfl).symm.trans e) |>.symm
   obtain rfl:d=Tryz.f14:=(aaP (Tryz.func14.symm.trans b)).symm
   exact⟨by kernel_rfl,fun j t c=>by
    rw [Tryz.params14] at c
    have g:t ∈ [42]:=by simpa using Array.mem_of_getElem? c
    have a:([42].all fun u=>!Tryz.prog.wantsStandIn u)=true:=by kernel_rfl
    exact (show Tryz.prog.wantsStandIn t=false by simpa using aaR.1 a t g)⟩)
  (by kernel_rfl)
end Go.Proofs.YthepmkjggfijoaaGreatDoor
