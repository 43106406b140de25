/-
  A part of the proof.
-/
import Derived.Test.YthepmkjggfijoaaGreatDoorSA
import Derived.Test.YthepmkjggfijoaaGreatDoorS31
import Derived.Test.YthepmkjggfijoaaGreatDoorS29
import Derived.Test.YthepmkjggfijoaaGreatDoorZ04
set_option linter.all false
set_option maxRecDepth 100000
set_option maxHeartbeats 2000000
namespace Go.Proofs.YthepmkjggfijoaaGreatDoor
open Go.RowKit Mist
attribute [local go_sem] aj aH aS aB ak
theorem RowsIn.UH {g:Nat}{w:World}{A B:Option Addr}{c d:Nat}{xs:List NV}{its:List Int}(h:RowsIn g w (.slice A xs.length c) (.slice B its.length d) xs its)(b:∀ x ∈ xs,x.1.kids.length≤1000000):mq w A B xs its:=by
 refine⟨fun h0=>?_,yI h.row rfl⟩
 obtain⟨a,e,f⟩:=Ee h.own h0 (fun x i=>⟨_,h.kids x i⟩) b;exact⟨a,0,e,f⟩
def vT (w:World)(A B:Option Addr)(c:Nat)(xs:List NV)(its:List Int):Prop :=
 Gg w A B xs its∧xs.length≤c∧its.length≤17592186044416∧c≤17592186044416∧(∀ i ∈ its,jq≤i∧i≤gq) ∧
   ∀ x ∈ xs,(x.1.kind < 256∧(jq≤x.1.n∧x.1.n≤gq)∧(jq≤x.1.at_∧x.1.at_≤gq)∧(∀ c ∈ x.1.kids,jq≤c∧c≤gq))∧x.1.text.length≤reachBytes∧x.1.kids.length≤17592186044416
theorem vT.big {w:World}{A B:Option Addr}{c:Nat}{xs:List NV}{its:List Int}(h:vT w A B c xs its)(g:Nat)(W:World)(a:Below w.heap.size w W) :
  Calls Tryz.prog 20 #[.agg #[.slice A xs.length c,.slice B its.length g]] W fun e d=>e=.returned (.bool (Rn ⟨aA xs,its⟩))∧Below W.heap.size W d:=by
 obtain⟨h1,h2,h3,h4,h5,h6⟩:=h;have f:reachBytes=140737488351232:=rfl
 exact dG A B c g xs its W (h1.below a) (by omega) h3 (fun x b=>by
  obtain⟨_,h7,h8⟩:=h6 x b;exact⟨by omega,h8⟩)
theorem vT.small {w:World}{A B:Option Addr}{c:Nat}{xs:List NV}{its:List Int}(h:vT w A B c xs its)(g:Rn ⟨aA xs,its⟩=false) :
  mq w A B xs its∧xO (aA xs)∧xs.length≤900∧its.length≤100∧(∀ x ∈ xs,x.1.text.length≤100000000)∧(∀ x ∈ xs,∀ k ∈ x.1.kids,jq≤k∧k≤gq)∧∀ x ∈ aA xs,x.kids.length≤1000000:=by
 obtain⟨h1,h2,h3,h4,h5,h6⟩:=h;obtain⟨e,f,d⟩:=Zb g;have b:∀ x ∈ xs,x.1.kids.length≤3000∧x.1.text.length≤5000:=fun x a=>d x.1 (List.mem_map.2 ⟨x,a,rfl⟩)
 refine⟨h1.UH fun x a=>by have:=(b x a).1;omega,fun n i=>?_,by simpa [aD] using e,f,fun x a=>by have:=(b x a).2;omega,fun x a=>(h6 x a).1.2.2.2,fun x a=>by have:=(d x a).1;omega⟩
 obtain⟨x,a,rfl⟩:=List.mem_map.1 i;obtain⟨⟨h7,h8,h9,h10⟩,_,_⟩:=h6 x a;exact⟨h7,by have:=(b x a).2;omega,h8,h9,h10⟩
theorem Ho (A B:Option Addr)(c d:Nat)(ks a:List Int)(w:World)(m:IntsIn w A ks)(n:IntsIn w B a)(t:ks.length≤1000000)(u:a.length≤1000000) :
  Calls Tryz.prog 88 #[.slice A ks.length c,.slice B a.length d] w fun e f=>e=.returned (.bool (decide (ks=a)))∧Below w.heap.size w f:=by
 by_cases h:ks.length=a.length
 ·by_cases h0:ks.length=0
  ·have k:ks=[]:=List.length_eq_zero_iff.1 h0;have l:a=[]:=List.length_eq_zero_iff.1 (h ▸ h0);subst k;subst l;refine (Tryz.slices_Equal_int_empty A B c 0 d w (by omega)).mono ?_;rintro e f ⟨rfl,rfl⟩;exact⟨by simp,Below.refl _ _⟩
  ·obtain⟨g,o,rfl,_,h1⟩:=m.ex (by omega);obtain⟨i,r,rfl,_,h2⟩:=n.ex (by omega);refine (Tryz.slices_Equal_int g o ks.length c i r a.length d ks a w (aaJ _) (aaJ _) (by omega) (by omega) (fun j b=>?_) (fun j b=>?_)).mono ?_
   ·rw [h1 j ks[j] (aaD b)];simp [aaH,b]
   ·rw [h2 j a[j] (aaD b)];simp [aaH,b]
   ·rintro e f ⟨rfl,q,rfl⟩
    refine⟨?_,gU (Below.refl _ _) _⟩
    rw [List.take_length,List.take_length]
    congr 2
    rw [aaI];simp
 ·refine (Tryz.slices_Equal_int_lens A B ks.length c a.length d w h).mono ?_;rintro e f ⟨rfl,rfl⟩
  refine⟨?_,Below.refl _ _⟩
  rw [aaV (fun e=>h (by rw [e]))]
theorem R6 (x y:Nd)(A B:Option Addr)(c d:Nat)(w:World)(j:IntsIn w A x.kids)(k:IntsIn w B y.kids)(v:x.kids.length≤1000000)(C:y.kids.length≤1000000) :
  Calls Tryz.prog 87 #[.agg #[.int .u8 x.kind,.string (aM x.text),.int .i64 x.n,.slice A x.kids.length c,.int .i64 x.at_],.agg #[.int .u8 y.kind,.string (aM y.text),.int .i64 y.n,.slice B y.kids.length d,.int .i64 y.at_]] w fun e E=>e=.returned (.bool (decide (eU x=eU y)))∧Below w.heap.size w E:=by
 have b:=O (ah (ah (Below.refl w.heap.size w) (aaJ _) (o:=.cells #[.int .u8 x.kind,.string (aM x.text),.int .i64 x.n,.slice A x.kids.length c,.int .i64 x.at_] 50)) (by simp) (o:=.cells #[.int .u8 y.kind,.string (aM y.text),.int .i64 y.n,.slice B y.kids.length d,.int .i64 y.at_] 50));have u:=O fun W (l:Below w.heap.size w W)=>Ho A B c d x.kids y.kids W (j.below l) (k.below l) v C
 have a:∀ {p:Prop},(eU x=eU y→p)→¬ p→decide (eU x=eU y)=false:=fun h D=>aaV (fun e=>D (h e))
 clear j k;by_cases h1:x.kind=y.kind
 case neg =>
  have q:((x.kind:Int) == (y.kind:Int))=false:=by rw [aaF];omega
  have f:=O (a (p:=x.kind=y.kind) (fun e=>by have h9:=congrArg Nd.kind e;exact h9) h1);clear h1 a;go_in
  go_wp2_with fail;go_ret;exact⟨by rw [f.o];rfl,b.o⟩
 have q:((x.kind:Int) == (y.kind:Int))=true:=by simp [h1]
 by_cases h2:x.text=y.text
 case neg =>
  have r:(x.text == y.text)=false:=by simpa using h2
  have f:=O (a (p:=x.text=y.text) (fun e=>by have h9:=congrArg Nd.text e;exact h9) h2);have i:=O h1;clear h1 a;go_in
  go_wp2_with fail;go_ret;exact⟨by rw [f.o];rfl,b.o⟩
 have r:(x.text == y.text)=true:=by simpa using h2
 by_cases h3:x.n=y.n
 case neg =>
  have t:(x.n == y.n)=false:=by simpa using h3
  have f:=O (a (p:=x.n=y.n) (fun e=>by have h9:=congrArg Nd.n e;exact h9) h3);have i:=O h1;have m:=O h2;clear h1 h2 h3 a;go_in
  go_wp2_with fail;go_ret;exact⟨by rw [f.o];rfl,b.o⟩
 have t:(x.n == y.n)=true:=by simpa using h3
 have n:=O (show decide (eU x=eU y)=decide (x.kids=y.kids) by
  congr 1
  unfold eU;rw [h1,h2,h3];simp)
 have i:=O h1;have m:=O h2;have F:=O h3;clear h1 h2 h3 a;go_in
 go_wp2_with fail;refine (u.o _ b.o).mono ?_;rintro e G⟨rfl,g⟩;go_wp2_with fail;go_ret;exact⟨by rw [n.o];first | rfl | simp,b.o.trans (g.mono b.o.size)⟩
theorem Rw (A B A' B':Option Addr)(c c':Nat)(xs ys:List NV)(its iB:List Int)(w:World)(hT:mq w A B xs its)(hU:mq w A' B' ys iB)(m:xs.length≤100000)(hy:ys.length≤100000) :
  Calls Tryz.prog 86 #[.slice A xs.length c,.slice A' ys.length c',.func (.func 87) #[] #[]] w fun e w'=>e=.returned (.bool (decide ((aA xs).map eU=(aA ys).map eU)))∧Below w.heap.size w w':=by
 obtain⟨n,v⟩:∃ n,n=xs.length:=⟨_,rfl⟩;obtain⟨n',L⟩:∃ n,n=ys.length:=⟨_,rfl⟩;rw [← v] at m ⊢
 rw [← L] at hy ⊢
 have HT:=O hT;clear hT;have HU:=O hU;clear hU;have J:=O v;clear v;have K:=O L;clear L;go_in
 by_cases P:n=n'
 case neg =>
  have q1:((n:Int) != (n':Int))=true:=by simp;omega
  have M:=O (show decide ((aA xs).map eU=(aA ys).map eU)=false from aaV fun h=>P (by have:=congrArg List.length h;simp only [List.length_map,aD] at this;rw [J.o,K.o];exact this));clear P;go_wp2_with fail;go_ret;exact⟨by rw [M.o];rfl,Below.refl _ _⟩
 subst P;have q1:((n:Int) != (n:Int))=false:=by simp
 go_wp2_with fail;go_loopw [17] (fun i wr=>∃ k:Nat,k≤n∧i=.int .i64 k∧Hid (((aA xs).take k).map eU=((aA ys).take k).map eU)∧Hid (Below w.heap.size w wr)) (fun i _=>n - (intOf i).toNat)
 case atStart=>exact⟨0,aaL _,rfl,O rfl,O (Below.refl _ _)⟩
 case round =>
  obtain⟨t,rfl⟩:∃ t:World,t=wr:=⟨_,rfl⟩;obtain⟨k,hk,rfl,S,a⟩:=hrel;by_cases q:k < n
  ·have i3:decide (k < n)=true:=aaU q;obtain⟨b,o,rfl,f⟩:=HT.o.nodes (by rw [← J.o];omega);obtain⟨C,I,rfl,g⟩:=HU.o.nodes (by rw [← K.o];omega);obtain⟨x,m⟩:∃ x,xs[k]? = some x:=jD (by rw [← J.o];exact q);obtain⟨y,hy⟩:∃ y,ys[k]? = some y:=jD (by rw [← K.o];exact q);have c0:=(a.o.cell (p:=⟨b,o+k * 5,none⟩) f.lt).trans (f.c0 k x m);have c1:=(a.o.cell (p:=⟨b,o+k * 5+1,none⟩) f.lt).trans (f.c1 k x m);have c2:=(a.o.cell (p:=⟨b,o+k * 5+2,none⟩) f.lt).trans (f.c2 k x m);have c3:=(a.o.cell (p:=⟨b,o+k * 5+3,none⟩) f.lt).trans (f.c3 k x m);have c4:=(a.o.cell (p:=⟨b,o+k * 5+4,none⟩) f.lt).trans (f.c4 k x m);have d0:=(a.o.cell (p:=⟨C,I+k * 5,none⟩) g.lt).trans (g.c0 k y hy);have d1:=(a.o.cell (p:=⟨C,I+k * 5+1,none⟩) g.lt).trans (g.c1 k y hy);have d2:=(a.o.cell (p:=⟨C,I+k * 5+2,none⟩) g.lt).trans (g.c2 k y hy);have d3:=(a.o.cell (p:=⟨C,I+k * 5+3,none⟩) g.lt).trans (g.c3 k y hy);have d4:=(a.o.cell (p:=⟨C,I+k * 5+4,none⟩) g.lt).trans (g.c4 k y hy);obtain⟨U,Y,E,Q,F⟩:=f.kid m;obtain⟨V,Z,G,R,H⟩:=g.kid hy;rw [E] at c3
   rw [G] at d3
   have X:=O (gP m);have kJ:=O (gP hy);have a0:b < t.heap.size:=aaW f.lt a.o.size;have a1:C < t.heap.size:=aaW g.lt a.o.size;have T:=O fun W (hb:Below t.heap.size t W)=>R6 x.1 y.1 U V Y Z W ((F.below a.o).below hb) ((H.below a.o).below hb) Q R
   clear f g m hy E G F H;have z0:(0:Int)≤(k:Int):=by omega
   have z1:(k:Int) < (n:Int):=by omega
   have d:=O (ah (ah (Below.refl t.heap.size t) (aaJ _) (o:=.cells #[.int .u8 x.1.kind,.string (aM x.1.text),.int .i64 x.1.n,.slice U x.1.kids.length Y,.int .i64 x.1.at_] 50)) (by simp) (o:=.cells #[.int .u8 y.1.kind,.string (aM y.1.text),.int .i64 y.1.n,.slice V y.1.kids.length Z,.int .i64 y.1.at_] 50));by_cases D:eU x.1=eU y.1
   ·have N:=O (show decide (eU x.1=eU y.1)=true from aaU D)
    have ql:=O (show ((aA xs).take (k+1)).map eU=((aA ys).take (k+1)).map eU by
     rw [List.take_add_one,List.take_add_one,X.o,kJ.o,List.map_append,List.map_append,S.o];simp [D])
    clear D;go_wp2_with fail;refine (T.o _ d.o).mono ?_;rintro e w2⟨rfl,j⟩;rw [N.o];have u:=O (a.o.trans ((d.o.trans (j.mono d.o.size)).mono a.o.size));clear j;go_wp2_with fail;exact⟨⟨k+1,by omega,by go_num,ql,u⟩,by simp [intOf];omega⟩
   ·have N:=O (show decide (eU x.1=eU y.1)=false from aaV D)
    have M:=O (show decide ((aA xs).map eU=(aA ys).map eU)=false from aaV fun h=>by
     refine FP (l:=(aA xs).map eU) (r:=(aA ys).map eU) (k:=k) ?_ ?_ D h
     ·rw [List.getElem?_map,X.o];rfl
     ·rw [List.getElem?_map,kJ.o];rfl)
    clear D;go_wp2_with fail;refine (T.o _ d.o).mono ?_;rintro e w2⟨rfl,j⟩;rw [N.o];have u:=O (a.o.trans ((d.o.trans (j.mono d.o.size)).mono a.o.size));clear j;go_wp2_with fail;go_ret;exact⟨by rw [M.o];rfl,u.o⟩
  ·have i3:decide (k < n)=false:=aaV q
   have wO:=O (show decide ((aA xs).map eU=(aA ys).map eU)=true from aaU (by
    have h9:=S.o
    rwa [aaN (by rw [aD,← J.o];omega),aaN (by rw [aD,← K.o];omega)] at h9))
   go_wp2_with fail;go_ret;exact⟨by rw [wO.o];rfl,a.o⟩
def two (T U:Tr):Int:=if dN T ≠ 0 then dN T else dN U
def Zo (T U:Tr):Bool × Int:=if two T U ≠ 0 then (false,two T U) else (decide (T.nodes.map eU=U.nodes.map eU) && decide (T.items=U.items),0)
theorem Gy (A B A' B':Option Addr)(c d F G g:Nat)(xs ys:List NV)(its iB:List Int)(w:World)(R:mq w A B xs its)(S:mq w A' B' ys iB)(Q:xO (aA xs))(hS:xO (aA ys))(L:Env w)(V:aC w g 26 #[.slice A xs.length c,.slice B its.length d,.slice A' ys.length F,.slice B' iB.length G]) :
  Calls Tryz.prog 85 #[.slice (some ⟨g,0,none⟩) 2 2] w fun e Z=>e=.returned (.int .i64 (two ⟨aA xs,its⟩ ⟨aA ys,iB⟩))∧Below w.heap.size w Z:=by
 have H:=O fun W (C:Below w.heap.size w W)=>jk A B c d xs its W (R.below C) Q (L.below C)
 have I:=O fun W (C:Below w.heap.size w W)=>jk A' B' F G ys iB W (S.below C) hS (L.below C)
 obtain⟨T,X⟩:∃ T:Tr,T=⟨aA xs,its⟩:=⟨_,rfl⟩;obtain⟨U,P⟩:∃ U:Tr,U=⟨aA ys,iB⟩:=⟨_,rfl⟩;rw [← X] at H ⊢
 rw [← P] at I ⊢
 clear X P R S Q hS L;have N:=O V;clear V;obtain⟨p,j⟩:∃ p,p=dN T:=⟨_,rfl⟩;obtain⟨q,m⟩:∃ q,q=dN U:=⟨_,rfl⟩;have J:=O (show two T U=if p ≠ 0 then p else q by unfold two;rw [j,m]);rw [← j] at H
 rw [← m] at I
 clear j m;go_in
 go_wp2_with fail;go_loopw [8] (fun i wr=>∃ k:Nat,k≤2∧i=.int .i64 k∧(0 < k→p=0)∧(1 < k→q=0)∧Hid (aC wr g 26 #[.slice A xs.length c,.slice B its.length d,.slice A' ys.length F,.slice B' iB.length G])∧Hid (Below w.heap.size w wr)) (fun i _=>2 - (intOf i).toNat)
 case atStart=>exact⟨0,by omega,rfl,fun h=>absurd h (by omega),fun h=>absurd h (by omega),N,O (Below.refl _ _)⟩
 case round =>
  clear N;obtain⟨v,rfl⟩:∃ v:World,v=wr:=⟨_,rfl⟩;obtain⟨k,hk,rfl,l,u,n,x⟩:=hrel;have t0:=n.o.cell 0;have t1:=n.o.cell 1;have t2:=n.o.cell 2;have t3:=n.o.cell 3;have M:k=0∨k=1∨k=2:=by omega
  rcases M with rfl | rfl | rfl
  ·have b:=O (ah (Below.refl v.heap.size v) (aaJ _) (o:=.cells #[.slice A xs.length c,.slice B its.length d] 26));have a:=O (x.o.trans (b.o.mono x.o.size));go_wp2_with fail;refine (H.o _ a.o).mono ?_;rintro e w2⟨rfl,f⟩;have D:=O (a.o.trans (f.mono a.o.size));have t:=O (b.o.trans (f.mono b.o.size));clear f;by_cases j:p=0
   ·have K:(p != 0)=false:=by simp [j]
    have r:=O (n.o.below t.o n.o.lt);have E:=O j;clear j;go_wp2_with fail;exact⟨⟨1,by omega,rfl,fun _=>E.o,fun h=>absurd h (by omega),r,D⟩,by simp [intOf]⟩
   ·have K:(p != 0)=true:=by simpa using j
    have y:=O (show two T U=p by rw [J.o,if_pos j]);clear j;go_wp2_with fail;go_ret;exact⟨by rw [y.o];rfl,D.o⟩
  ·have j:=l (by omega);have E:=O j;have b:=O (ah (Below.refl v.heap.size v) (aaJ _) (o:=.cells #[.slice A' ys.length F,.slice B' iB.length G] 26));have a:=O (x.o.trans (b.o.mono x.o.size));clear l u j;go_wp2_with fail;refine (I.o _ a.o).mono ?_;rintro e w2⟨rfl,f⟩;have D:=O (a.o.trans (f.mono a.o.size));have t:=O (b.o.trans (f.mono b.o.size));clear f;by_cases m:q=0
   ·have K:(q != 0)=false:=by simp [m]
    have r:=O (n.o.below t.o n.o.lt);have Y:=O m;clear m;go_wp2_with fail;exact⟨⟨2,by omega,rfl,fun _=>E.o,fun _=>Y.o,r,D⟩,by simp [intOf]⟩
   ·have K:(q != 0)=true:=by simpa using m
    have y:=O (show two T U=q by rw [J.o,if_neg (by rw [E.o];simp)]);clear m;go_wp2_with fail;go_ret;exact⟨by rw [y.o];rfl,D.o⟩
  ·have y:=O (show two T U=0 by rw [J.o,if_neg (by rw [l (by omega)];simp),u (by omega)]);clear l u;go_wp2_with fail;go_ret;exact⟨by rw [y.o];rfl,x.o⟩
theorem bE (A B A' B':Option Addr)(c d a b:Nat)(xs ys:List NV)(its iB:List Int)(w:World)(D:mq w A B xs its)(F:mq w A' B' ys iB)(N:xO (aA xs))(hS:xO (aA ys))(M:Env w)(P:xs.length≤100000)(hy:ys.length≤100000)(hi:its.length≤100000)(Y:iB.length≤100000) :
  Calls Tryz.prog 47 #[.agg #[.slice A xs.length c,.slice B its.length d],.agg #[.slice A' ys.length a,.slice B' iB.length b]] w fun e Z=>e=.returned (.tuple #[.bool (Zo ⟨aA xs,its⟩ ⟨aA ys,iB⟩).1,.int .i64 (Zo ⟨aA xs,its⟩ ⟨aA ys,iB⟩).2])∧Below w.heap.size w Z:=by
 have n:=O fun W (i:Below w.heap.size w W) g hg=>Gy A B A' B' c d a b g xs ys its iB W (D.below i) (F.below i) N hS (M.below i) hg
 have wu:=O fun W (i:Below w.heap.size w W)=>Rw A B A' B' c a xs ys its iB W (D.below i) (F.below i) P hy
 have G:=O fun W (i:Below w.heap.size w W)=>Ho B B' d b its iB W (D.below i).items (F.below i).items (by omega) (by omega)
 obtain⟨T,K⟩:∃ T:Tr,T=⟨aA xs,its⟩:=⟨_,rfl⟩;obtain⟨U,H⟩:∃ U:Tr,U=⟨aA ys,iB⟩:=⟨_,rfl⟩;have y:=O (show Zo T U=if two T U ≠ 0 then (false,two T U) else (decide ((aA xs).map eU=(aA ys).map eU) && decide (its=iB),0) by rw [K,H];rfl);rw [← K,← H] at n ⊢
 clear K H D F N hS M P hy hi Y;have m:=O (((aC.new w 26 #[.slice A xs.length c,.slice B its.length d]).alloc (.cells #[.slice A' ys.length a,.slice B' iB.length b] 26)).alloc (.cells #[.slice A xs.length c,.slice B its.length d,.slice A' ys.length a,.slice B' iB.length b] 26));have I:=O ((dL (W:=w.alloc (.cells #[.slice A xs.length c,.slice B its.length d] 26)) (T:=26) (cs:=#[.slice A' ys.length a,.slice B' iB.length b]) (k:=w.heap.size+1) (by simp)).alloc (.cells #[.slice A xs.length c,.slice B its.length d,.slice A' ys.length a,.slice B' iB.length b] 26));have L:=O (dL (W:=(w.alloc (.cells #[.slice A xs.length c,.slice B its.length d] 26)).alloc (.cells #[.slice A' ys.length a,.slice B' iB.length b] 26)) (T:=26) (cs:=#[.slice A xs.length c,.slice B its.length d,.slice A' ys.length a,.slice B' iB.length b]) (k:=w.heap.size+1+1) (by simp));have C:=O (ah (ah (ah (Below.refl w.heap.size w) (aaJ _) (o:=.cells #[.slice A xs.length c,.slice B its.length d] 26)) (by simp) (o:=.cells #[.slice A' ys.length a,.slice B' iB.length b] 26)) (by simp;omega) (o:=.cells #[.slice A xs.length c,.slice B its.length d,.slice A' ys.length a,.slice B' iB.length b] 26));go_in
 go_wp2_with fail;refine (n.o _ C.o _ L.o).mono ?_;rintro e w1⟨rfl,j⟩;have q:=O (m.o.below j m.o.lt);have u:=O (I.o.below j I.o.lt);have v:=O (C.o.trans (j.mono C.o.size));clear j m I L C n;have R:=q.o.cell 0;have S:=q.o.cell 1;have V:=u.o.cell 0;have X:=u.o.cell 1;obtain⟨E,Q⟩:∃ E,E=two T U:=⟨_,rfl⟩;rw [← Q] at y ⊢
 clear Q;by_cases h:E=0
 case neg =>
  have e1:(E != 0)=true:=by simpa using h
  have x:=O (show Zo T U=(false,E) by rw [y.o,if_pos h]);clear h;go_wp2_with fail;go_ret2
  exact⟨by rw [x.o];rfl,v.o⟩
 subst h;have x:=O (show Zo T U=(decide ((aA xs).map eU=(aA ys).map eU) && decide (its=iB),0) by rw [y.o,if_neg (by simp)]);clear y;go_wp2_with fail;refine (wu.o _ v.o).mono ?_;rintro e w2⟨rfl,l⟩;have t:=O (q.o.below l q.o.lt);have n:=O (u.o.below l u.o.lt);have f:=O (v.o.trans (l.mono v.o.size));clear l q u v R S V X;have R:=t.o.cell 0;have S:=t.o.cell 1;have V:=n.o.cell 0;have X:=n.o.cell 1
 generalize decide ((aA xs).map eU=(aA ys).map eU)=r at x ⊢
 cases r
 ·go_wp2_with fail;go_ret2
  exact⟨by rw [x.o];rfl,f.o⟩
 ·go_wp2_with fail;refine (G.o _ f.o).mono ?_;rintro e w3⟨rfl,J⟩;go_wp2_with fail;go_ret2
  exact⟨by rw [x.o];first | rfl | simp,f.o.trans (J.mono f.o.size)⟩
theorem bn:∀ (l:List Nd) (n:Nat),(∀ x ∈ l,eP x.kind=false)→gJ n l=[]
 | [],_,_=>rfl
 | x :: r,n,h=>by
  unfold gJ;rw [if_neg (by rw [h x (List.mem_cons_self ..)];simp)];exact bn r (n+1) (fun y hy=>h y (List.mem_cons_of_mem _ hy))
theorem SL {T:Tr}{j:Nat}{x:Nd}(a:je T j=true)(d:T.nodes[j]? = some x){i:Nat}(hi:(i:Int) ∈ x.kids):eP (nd T i).kind=false:=by
 rw [wL,kH d] at a
 simp only [aaS,aaR,List.mem_range] at a
 obtain⟨p,b,c⟩:=List.mem_iff_getElem.1 hi;have h:=a.2 p b;unfold Hw at h
 rw [aaH,aaD b,c] at h
 simp only [Option.getD_some,aaQ,aaS] at h
 exact aah h.1
theorem JS.UH {g:Nat}{w:World}{tb:Nat}{A B:Option Addr}{c d:Nat}{xs:List NV}{its:List Int}(h:JS g w tb (.slice A xs.length c) (.slice B its.length d) xs its)(b:∀ x ∈ xs,x.1.kids.length≤1000000):mq w A B xs its:=by
 refine⟨fun h0=>?_,yI h.row rfl⟩
 obtain⟨a,e,f⟩:=Ee h.own h0 (fun x i=>⟨_,h.kids x i⟩) b;exact⟨a,0,e,f⟩
theorem L9 {T:Tr}(b:∀ n ∈ T.nodes,jq≤n.n∧n.n≤gq)(h:dN T=0):∀ i,i < T.nodes.length→je T i=true:=by
 rw [rP T b] at h
 unfold kV at h
 split at h
 ·cases h
 split at h
 ·cases h
 ·rename_i a
  exact (Ob (by simpa using a)).1
theorem sV:∀ (n:Nat) (l r:List Nd),gJ n (l ++ r)=gJ n l ++ gJ (n+l.length) r
 | n,[],r=>by simp [gJ]
 | n,x :: l,r=>by
  simp only [List.cons_append,gJ,List.length_cons];have e:n+1+l.length=n+(l.length+1):=by omega
  split
  ·rw [sV (n+1) l r,e];rfl
  ·rw [sV (n+1) l r,e]
theorem Wz {T:Tr}(g:∀ i,i < T.nodes.length→je T i=true){m b:Nat}{n:Nd}(w:m≤b)(e:T.nodes[b]? = some n)(a:Fo T.nodes m b n.kids)(hi:eP n.kind=true)(k:Nat):gJ k ((T.nodes.drop m).take (b+1 - m))=[((k+(b - m):Nat):Int)]:=by
 have d:b < T.nodes.length:=(aaE.1 e).1;have f:b+1 - m=(b - m)+1:=by omega
 rw [f,List.take_add_one,List.getElem?_drop,show m+(b - m)=b by omega,e,Option.toList_some,oM,bn]
 ·rw [if_pos hi,List.length_take,List.length_drop];have l:k+min (b - m) (T.nodes.length - m)=k+(b - m):=by omega
  rw [l];rfl
 ·intro x r;obtain⟨q,o,u⟩:=List.mem_iff_getElem.1 r;rw [List.length_take,List.length_drop] at o
  have t:T.nodes[m+q]? = some x:=by
   rw [← u,List.getElem_take,List.getElem_drop];exact aaD _
  rw [show x.kind=(nd T (m+q)).kind by rw [kH t]];rcases Fo.parent a (m+q) (by omega) (by omega) with h | ⟨j,y,_,v,hy,c⟩
  ·exact SL (g b d) e h
  ·exact SL (g j (by omega)) hy c
theorem Pv {T:Tr}(d:∀ i,i < T.nodes.length→je T i=true)(k:Nat):∀ (l:List Int) (a b:Nat),Fo T.nodes a b l.reverse→a≤b→(∀ c ∈ l,eP (nd T c.toNat).kind=true)→gJ (k+a) ((T.nodes.drop a).take (b - a))=l.reverse.map (·+(k:Int))
 | [],a,b,h,hab,_=>by
  have:a=b:=by
   have h9:Fo T.nodes a b []:=h;exact Uj h9
  subst this;simp [gJ]
 | x :: r,a,b,h,hab,hi=>by
  obtain⟨m,p,n,rfl,rfl,h1,h2,h3⟩:=Fo.inv h r.reverse x (by simp);have o:=Fo.len h1;have g:=Fo.len h2
  have j:eP n.kind=true:=by
   have h9:=hi (p:Int) (List.mem_cons_self ..)
   rwa [aaQ,kH h3] at h9
  have q:p < T.nodes.length:=(aaE.1 h3).1
  have e:(T.nodes.drop a).take (p+1 - a)=(T.nodes.drop a).take (m - a) ++ (T.nodes.drop m).take (p+1 - m):=by
   rw [show p+1 - a=(m - a)+(p+1 - m) by omega,List.take_add,List.drop_drop,show a+(m - a)=m by omega]
  rw [e,sV,Pv d k r a m h1 (by omega) (fun c f=>hi c (List.mem_cons_of_mem _ f)),Wz d (by omega) h3 h2 j,List.reverse_cons,List.map_append]
  congr 1
  rw [List.length_take,List.length_drop];simp
  omega
theorem KP {T:Tr}(a:qV T)(d:∀ i,i < T.nodes.length→je T i=true)(k:Nat):gJ k T.nodes=T.items.map (·+(k:Int)):=by
 have h:=Pv d k T.items.reverse 0 T.nodes.length (by rw [List.reverse_reverse];exact a.fo) (aaL _) (fun c b=>a.item c (List.mem_reverse.1 b));rw [List.reverse_reverse,List.drop_zero,Nat.sub_zero,List.take_length] at h
 exact h
theorem SH (A B A' B':Option Addr)(c d l m:Nat)(xs ys:List NV)(its iB:List Int)(w:World)(K:mq w A B xs its)(L:mq w A' B' ys iB)(Z:xs.length≤10000)(hy:ys.length≤10000)(hi:its.length≤10000)(V:iB.length≤10000)(X:∀ x ∈ xs,x.1.text.length≤100000000)(E:∀ x ∈ ys,x.1.text.length≤100000000)(tL:∀ n ∈ aA xs,jq≤n.n∧n.n≤gq)(S:∀ n ∈ aA ys,jq≤n.n∧n.n≤gq) :
  Calls Tryz.prog 48 #[.agg #[.slice A xs.length c,.slice B its.length d],.agg #[.slice A' ys.length l,.slice B' iB.length m]] w fun e w'=>e=.returned (.tuple #[.bool (Zo ⟨aA xs,its⟩ ⟨aA ys,iB⟩).1,.int .i64 (Zo ⟨aA xs,its⟩ ⟨aA ys,iB⟩).2])∧Below w.heap.size w w':=by
 have C:=O fun W (t:Below w.heap.size w W)=>pO A B c d xs its W (K.below t) Z hi X
 have D:=O fun W (t:Below w.heap.size w W)=>pO A' B' l m ys iB W (L.below t) hy V E
 have JR:=O fun W (t:Below w.heap.size w W)=>JZ A B A' B' c d l m xs ys its iB W (K.below t) (L.below t) (by omega) (by omega) (by omega) (by omega)
 have jG:=rP ⟨aA xs,its⟩ tL;have jH:=rP ⟨aA ys,iB⟩ S;rw [← jG] at C
 rw [← jH] at D
 clear jG jH;obtain⟨T,N⟩:∃ T:Tr,T=⟨aA xs,its⟩:=⟨_,rfl⟩;obtain⟨U,H⟩:∃ U:Tr,U=⟨aA ys,iB⟩:=⟨_,rfl⟩;have J:=O (show Zo T U=if two T U ≠ 0 then (false,two T U) else (decide ((aA xs).map eU=(aA ys).map eU) && decide (its=iB),0) by rw [N,H];rfl);rw [← N] at C ⊢
 rw [← H] at D ⊢
 obtain⟨p,g⟩:∃ p,p=dN T:=⟨_,rfl⟩;obtain⟨q,h⟩:∃ q,q=dN U:=⟨_,rfl⟩;have R:=O (show two T U=if p ≠ 0 then p else q by unfold two;rw [g,h]);rw [← g] at C
 rw [← h] at D
 clear g h N H K L Z hy hi V X E tL S;have i:=O ((aC.new w 26 #[.slice A xs.length c,.slice B its.length d]).alloc (.cells #[.slice A' ys.length l,.slice B' iB.length m] 26));have I:=O (dL (W:=w.alloc (.cells #[.slice A xs.length c,.slice B its.length d] 26)) (T:=26) (cs:=#[.slice A' ys.length l,.slice B' iB.length m]) (k:=w.heap.size+1) (by simp));have F:=O (ah (ah (Below.refl w.heap.size w) (aaJ _) (o:=.cells #[.slice A xs.length c,.slice B its.length d] 26)) (by simp) (o:=.cells #[.slice A' ys.length l,.slice B' iB.length m] 26));go_in
 go_wp2_with fail;refine (C.o _ F.o).mono ?_;rintro e w1⟨rfl,b⟩;have G:=O (i.o.below b i.o.lt);have v:=O (I.o.below b I.o.lt);have y:=O (F.o.trans (b.mono F.o.size));clear b i I F C;have u0:=v.o.cell 0;have u1:=v.o.cell 1;by_cases g:p=0
 case neg =>
  have e1:(p != 0)=true:=by simpa using g
  have j:=O (show Zo T U=(false,p) by rw [J.o,R.o,if_pos g,if_pos g]);clear g;go_wp2_with fail;go_ret2
  exact⟨by rw [j.o];rfl,y.o⟩
 subst g;have Q:=O (show two T U=q by rw [R.o,if_neg (by simp)]);go_wp2_with fail;refine (D.o _ y.o).mono ?_;rintro e w2⟨rfl,f⟩;have u:=O (G.o.below f G.o.lt);have P:=O (v.o.below f v.o.lt);have a:=O (y.o.trans (f.mono y.o.size));clear f G v y D u0 u1;by_cases h:q=0
 case neg =>
  have e1:(q != 0)=true:=by simpa using h
  have j:=O (show Zo T U=(false,q) by rw [J.o,Q.o,if_pos h]);clear h;go_wp2_with fail;go_ret2
  exact⟨by rw [j.o];rfl,a.o⟩
 subst h;have j:=O (show Zo T U=(decide ((aA xs).map eU=(aA ys).map eU) && decide (its=iB),0) by rw [J.o,Q.o,if_neg (by simp)]);have t0:=u.o.cell 0;have t1:=u.o.cell 1;have u0:=P.o.cell 0;have u1:=P.o.cell 1;go_wp2_with fail;refine (JR.o _ a.o).mono ?_;rintro e w3⟨M,r,rfl,Y⟩
 have HR:=O (show (decide ((aA xs).map eU=(aA ys).map eU) && decide (its=iB))=r by
  rw [aaI,Y];simp)
 clear Y;rw [HR.o] at j
 go_wp2_with fail;go_ret2
 exact⟨by rw [j.o];first | rfl | simp,a.o.trans (M.mono a.o.size)⟩
end Go.Proofs.YthepmkjggfijoaaGreatDoor
