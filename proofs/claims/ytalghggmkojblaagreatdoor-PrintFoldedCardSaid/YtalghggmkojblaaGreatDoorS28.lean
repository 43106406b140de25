/-
  A part of the proof.
-/
import Derived.Test.YtalghggmkojblaaGreatDoorS27
set_option linter.all false
set_option maxRecDepth 100000
set_option maxHeartbeats 4000000
set_option linter.all false
namespace Mist
theorem Kh (a b:List Pz):dX (a ++ b)=dX a ++ dX b:=by
 induction a with
 | nil=>rfl
 | cons p r e=>show (if p.blank then [32] else []) ++ (p.text ++ dX (r ++ b))=((if p.blank then [32] else []) ++ (p.text ++ dX r)) ++ dX b;rw [e];simp
theorem Ul (l:List Pz)(m:Nat)(p:Pz)(h:l[m]? = some p):dX (l.take (m+1))=dX (l.take m) ++ (if p.blank then [32] else []) ++ p.text:=by
 have a:m < l.length:=(amG.1 h).1;have e:l[m]=p:=(amG.1 h).2;rw [List.take_succ_eq_append_getElem a,e,Kh];simp [dX]
theorem adi (l:List Pz)(m:Nat):(dX (l.take m)).length≤(dX l).length:=by
 have h:=Kh (l.take m) (l.drop m);rw [List.take_append_drop] at h
 rw [h];simp
end Mist
namespace Go.Proofs.YtalghggmkojblaaGreatDoor
section
open Go.RowKit Mist
attribute [local go_sem] ak aN aV aF aj
structure Wo (w:World) (A:Option Addr) (l:List Pz):Prop where
 at_:0 < l.length→∃ b o,A=some ⟨b,o,none⟩∧b < w.heap.size∧∀ k p,l[k]? = some p→w.cell? ⟨b,o+k * 3,none⟩=some (.string (aG p.text))∧w.cell? ⟨b,o+k * 3+1,none⟩=some (.bool p.blank)∧w.cell? ⟨b,o+k * 3+2,none⟩=some (.int .i64 p.node)
theorem Wo.below {w j:World}{A:Option Addr}{l:List Pz}(h:Wo w A l)(g:Below w.heap.size w j):Wo j A l:=⟨fun h0=>by
 obtain⟨b,o,e,a,q⟩:=h.at_ h0
 refine⟨b,o,e,amY a g.size,fun k p r=>?_⟩
 obtain⟨h1,h2,h3⟩:=q k p r;exact⟨(g.cell (p:=⟨b,_,none⟩) a).trans h1,(g.cell (p:=⟨b,_,none⟩) a).trans h2,(g.cell (p:=⟨b,_,none⟩) a).trans h3⟩⟩
theorem lZ:yV 59 2:=⟨by kernel_rfl,by decide⟩
theorem Um (A:Option Addr)(c:Nat)(l:List Pz)(w:World)(h:Wo w A l)(hn:l.length≤1000000)(ht:(dX l).length≤100000000) :
  Calls Tryz.prog 45 #[.slice A l.length c] w fun e w'=>e=.returned (.string (aG (dX l)))∧Below w.heap.size w w':=by
 have HP:=O h;clear h;have HT:=O ht;clear ht;obtain⟨n,x⟩:∃ n,n=l.length:=⟨_,rfl⟩;rw [← x] at hn ⊢
 have R:=O x;clear x;go_in
 go_wp2_with fail;have y:=O (Cw.fresh 59 [] w);have yh:=O ((Below.refl w.heap.size w).alloc (amL _) (.cells #[.pointer none,.slice none 0 0] 59));go_loopw [8] (fun iv wr=>∃ m:Nat,m≤n∧iv=.int .i64 m∧Hid (Cw 59 w.heap.size w.heap.size [] (dX (l.take m)) wr)∧Hid (Below w.heap.size w wr)) (fun iv _=>n - (intOf iv).toNat)
 case atStart=>exact⟨0,amN _,rfl,y,yh⟩
 case round =>
  obtain⟨m,hm,rfl,N,I⟩:=hrel;clear y yh;have F:=I.o.size;by_cases G:m < n
  ·obtain⟨p,U⟩:∃ p,l[m]? = some p:=⟨_,amF (by rw [← R.o];exact G)⟩;obtain⟨b,o,hA,hbl,Z⟩:=(HP.o.below I.o).at_ (by rw [← R.o];omega);subst hA;obtain⟨q0,q1,q2⟩:=Z m p U;have a:=Ul l m p U;have E:=adi l (m+1);obtain⟨t,K,nd⟩:=p;simp only at q0 q1 q2 a
   have B:=O a;have q:=congrArg List.length a;have y0:(0:Int)≤(m:Int):=by omega
   have y1:(m:Int) < (n:Int):=by omega
   have v:=O (show (dX (l.take m)).length+1+t.length≤1000000000 by
    have:=HT.o
    rw [q,amQ,amQ] at E
    omega)
   have r:=O (bY.new wr 107 #[.string (aG t),.bool K,.int .i64 nd]);have J:=O (N.o.below ((Below.refl _ _).alloc (amL _) (.cells #[.string (aG t),.bool K,.int .i64 nd] 107)));have g:=O (I.o.alloc F (.cells #[.string (aG t),.bool K,.int .i64 nd] 107));clear Z U a E q;cases K
   ·go_upto_region 5 with (fail)
    generalize wr.alloc (.cells #[.string (aG t),.bool false,.int .i64 nd] 107)=M at r J g ⊢
    have T:=r.o.cell 0;have X:=r.o.cell 1;go_wp2_with fail;refine (jm 59 2 w.heap.size w.heap.size lZ [] (dX (l.take m)) t M J.o rfl (by have:=v.o;omega) g.o.size).mono ?_;rintro e V⟨rfl,j,k,_⟩;have u:=O j;have L:=O (g.o.trans k);clear j k;go_wp2_with fail;exact⟨⟨m+1,by omega,by go_num,O (by rw [B.o];simpa using u.o),L⟩,by simp [intOf];omega⟩
   ·go_upto_region 5 with (fail)
    generalize wr.alloc (.cells #[.string (aG t),.bool true,.int .i64 nd] 107)=M at r J g ⊢
    have T:=r.o.cell 0;have X:=r.o.cell 1;go_wp2_with fail;refine (yc 59 2 w.heap.size w.heap.size lZ [] (dX (l.take m)) 32 M J.o rfl (by have:=v.o;omega) g.o.size).mono ?_;rintro e V⟨rfl,j,k,H⟩;have u:=O j;have L:=O (g.o.trans k);have S:=O H;clear j k T X H;have fU:bY V wr.heap.size 107 #[.string (aG t),.bool true,.int .i64 nd]:=S.o.cell r.o (by have:=N.o.lt;omega) (by decide);have T:=fU.cell 0;go_wp2_with fail;refine (jm 59 2 w.heap.size w.heap.size lZ [] (dX (l.take m) ++ [32]) t V u.o rfl (by have:=v.o;rw [amQ];simp;omega) L.o.size).mono ?_;rintro e w4⟨rfl,C,D,_⟩;have Cz:=O C;have EJ:=O (L.o.trans D);clear C D;go_wp2_with fail;exact⟨⟨m+1,by omega,by go_num,O (by rw [B.o];simpa using Cz.o),EJ⟩,by simp [intOf];omega⟩
  ·obtain rfl:m=n:=by omega
   have P:=O (show Cw 59 w.heap.size w.heap.size [] (dX l) wr from by have h:=N.o;rw [R.o,List.take_length] at h;exact h);clear G;go_wp2_with fail;refine (uH 59 w.heap.size w.heap.size [] (dX l) wr P.o F).mono ?_;rintro e M⟨rfl,Y⟩;have Q:=O (I.o.trans Y);clear Y;go_wp2_with fail;go_ret;exact⟨rfl,Q.o⟩
end
set_option linter.all false
section
open Go.RowKit Mist
attribute [local go_sem] ak aN aV aF aj
def xB (w:World)(v:Value)(l:List Pz):Prop:=w.ownsRow 0 107 3 v l.length (gW l)
theorem xB.below {w a:World}{v:Value}{l:List Pz}(h:xB w v l)(b:Below w.heap.size w a):xB a v l:=own_below h b
theorem xB.form {w:World}{v:Value}{l:List Pz}(h:xB w v l):∃ A c,v=.slice A l.length c∧Wo w A l:=by
 obtain⟨A,c,rfl⟩:=dA h;have h:w.ownsRow 0 107 3 (.slice A l.length c) l.length (gW l):=h
 refine⟨A,c,rfl,⟨fun h0=>?_⟩⟩
 obtain⟨e,cap,hv,j⟩:=h.form h0;injection hv with b
 subst b
 refine⟨e,0,rfl,(World.ownsRow.lt h e rfl).2,fun k p a=>?_⟩
 have g:=(amG.1 a).1;rw [Nat.zero_add]
 refine⟨?_,?_,?_⟩
 ·rw [h.cellAt (k * 3) (by omega)];exact vX l k 0 p _ a rfl
 ·rw [h.cellAt (k * 3+1) (by omega)];exact vX l k 1 p _ a rfl
 ·rw [h.cellAt (k * 3+2) (by omega)];exact vX l k 2 p _ a rfl
def mK (T:Tr)(f i:Nat):List Pz:=cZ false (aQ T f i)
structure WX (W:World) (A Bi:Option Addr) (n:Nat) (xs:List NV) (its:List Int):Prop where
 t:uZ W A Bi xs its
 len:xs.length=n
 few:n≤1000
 pow:Pow W
 env:Env W
 ok:Ru ⟨aH xs,its⟩
theorem Pow.on {w e:World}(h:Pow w)(b:Below w.heap.size w e):Pow e:=fun g a=>h g (b.trans (a.mono b.size))
theorem WX.below {W b:World}{A Bi:Option Addr}{n:Nat}{xs:List NV}{its:List Int}(X:WX W A Bi n xs its)(a:Below W.heap.size W b):WX b A Bi n xs its:=⟨X.t.below a,X.len,X.few,X.pow.on a,X.env.below a,X.ok⟩
theorem WX.nodes {W:World}{A Bi:Option Addr}{n:Nat}{xs:List NV}{its:List Int}(X:WX W A Bi n xs its):(⟨aH xs,its⟩:Tr).nodes.length=n:=by rw [← X.len];simp [aH]
theorem WX.bits {W:World}{A Bi:Option Addr}{n:Nat}{xs:List NV}{its:List Int}(X:WX W A Bi n xs its){i f:Nat}(hi:i < n)(a:i < f):(aQ ⟨aH xs,its⟩ f i).length≤12012:=by
 have:=Jg X.ok.right X.ok.fo (i:=i) (f:=f) (by rw [X.nodes];exact hi) a
 have:=X.few
 omega
section
variable {W:World} {A Bi:Option Addr} {n c m d i f:Nat} {xs:List NV} {its:List Int}
theorem uE (X:WX W A Bi n xs its)(hi:i < n)(w:i+1 < f)(x:fM (nd (⟨aH xs,its⟩:Tr) i).kind=true) :
  Calls Tryz.prog 16 #[.agg #[.slice A n c,.slice Bi m d],.int .i64 i,.func (.func 17) #[] #[]] W fun e j=>∃ v,e=.returned v∧xB j v (mK ⟨aH xs,its⟩ f i)∧Below W.heap.size W j:=by
 have a:CX W W.heap.size A Bi n xs its:=⟨X.t,X.len,amL _,by have:=X.few;omega,X.pow,X.env⟩;have k:(W.alloc (.cells #[.slice A n c,.slice Bi m d] 28)).heap.size=W.heap.size+1:=by simp
 have h:=O (((Below.refl W.heap.size W).alloc (amL _) (.cells #[.slice A n c,.slice Bi m d] 28)).alloc (by simp) (.cells #[.slice A n c,.slice Bi m d,.slice none 0 0] 96))
 have l:PZ [] W.heap.size (W.heap.size+1) W ((W.alloc (.cells #[.slice A n c,.slice Bi m d] 28)).alloc (.cells #[.slice A n c,.slice Bi m d,.slice none 0 0] 96)) (.slice A n c) (.slice Bi m d) (.slice none 0 0) []:=by
  have q:=bY.new (W.alloc (.cells #[.slice A n c,.slice Bi m d] 28)) 96 #[.slice A n c,.slice Bi m d,.slice none 0 0];rw [k] at q
  exact⟨q,World.ownsRow_nil _ _ _ _,h.o,by omega,by simp;omega,fun e u=>by cases u⟩
 have r:=O (X7 (g:=W.heap.size+1) (c:=c) (iv:=.slice Bi m d) a X.ok f i w hi x [] _ _ [] (O l) (by have:=X.bits hi (show i < f by omega);simp;omega));clear l h X a k;go_in
 go_wp2_with fail;refine r.o.mono ?_;rintro e B⟨y,rfl,b⟩;have C:B.cell? ⟨W.heap.size+1,2,none⟩=some y:=b.o.blk.cell 2;go_wp2_with fail;go_ret;exact⟨_,rfl,jr b.o.own (fun _ _=>amN _),b.o.MF⟩
def rT (T:Tr)(f:Nat)(its:List Int):List (List Pz):=its.map fun a=>mK T f a.toNat
structure Da (w:World) (base:Nat) (v:Value) (ls:List (List Pz)) (vs:List Value):Prop where
 own:w.ownsRow base 50 1 v ls.length vs
 len:vs.length=ls.length
 row:∀ (k:Nat) (l:List Pz),ls[k]? = some l→∃ u,vs[k]? = some u∧xB w u l
theorem Da.below {w j:World}{base:Nat}{v:Value}{ls:List (List Pz)}{vs:List Value}(h:Da w base v ls vs)(g:Below w.heap.size w j):Da j base v ls vs :=
 ⟨own_below h.own g,h.len,fun k l e=>by obtain⟨u,a,b⟩:=h.row k l e;exact⟨u,a,b.below g⟩⟩
theorem Da.add {w r:World}{base:Nat}{v x:Value}{ls:List (List Pz)}{vs:List Value}(h:Da w base v ls vs){u:Value}{l:List Pz}(q:xB w u l)(y:w.grownBy r v.ownBlock)(B:r.ownsRow base 50 1 x (ls.length+1) (vs ++ [u])):Da r base x (ls ++ [l]) (vs ++ [u]):=by
 have keep:∀ {u:Value} {l:List Pz},xB w u l→xB r u l:=fun {u l} q=>World.ownsRow.kept (show w.ownsRow 0 107 3 u l.length (gW l) from q) y (eB (show w.ownsRow 0 107 3 u l.length (gW l) from q) h.own (by decide))
 refine⟨by rw [amQ];exact B,by simp [h.len],fun k t e=>?_⟩
 rcases Nat.lt_or_ge k ls.length with j | j
 ·rw [List.getElem?_append_left j] at e
  obtain⟨C,a,b⟩:=h.row k t e;exact⟨C,by rw [List.getElem?_append_left (by rw [h.len];exact j)];exact a,keep b⟩
 ·rw [List.getElem?_append_right j] at e
  have g:k - ls.length=0:=by
   rcases Nat.eq_zero_or_pos (k - ls.length) with h0 | h0
   ·exact h0
   ·rw [List.getElem?_eq_none (by simp;omega)] at e;cases e
  rw [g] at e
  have e:l=t:=by simpa using e
  subst e;exact⟨u,by rw [List.getElem?_append_right (by rw [h.len];omega),h.len,g];rfl,keep q⟩
theorem Pn:(Tryz.prog.info? 50).map (fun i=>(i.zero,i.size,i.bytes))=some (some (.slice none 0 0),1,24):=by kernel_rfl
theorem aeh (X:WX W A Bi n xs its)(hm:its.length=m)(hf:n+1≤f)(h0:1≤n∨m=0)(J:∀ a ∈ its,∃ i:Nat,a=(i:Int)∧i < n∧fM (nd (⟨aH xs,its⟩:Tr) i).kind=true)(hmm:m≤1000) :
  Calls Tryz.prog 63 #[.agg #[.slice A n c,.slice Bi m d]] W fun e W'=>∃ v vs,e=.returned v∧Da W' W.heap.size v (rT ⟨aH xs,its⟩ (f+1) its) vs∧Below W.heap.size W W':=by
 obtain⟨i0,hi0,hz0,hz1,hz2⟩:=info_parts Pn;have HX:=O X;have V:=O J;have Z:=O hm;have E:=O ((Below.refl W.heap.size W).alloc (amL _) (.cells #[.slice A n c,.slice Bi m d] 28));have H:=O (bY.new W 28 #[.slice A n c,.slice Bi m d]);have HI:=O X.t.items;clear J X hm;go_in
 go_wp2_with fail;go_loopw [2,4,8] (fun v2 _ C wr=>∃ (k:Nat) (vs:List Value),k≤m∧C=.int .i64 k∧Hid (Da wr W.heap.size v2 ((rT ⟨aH xs,its⟩ (f+1) its).take k) vs)∧Hid (Below W.heap.size W wr)∧Hid (bY wr W.heap.size 28 #[.slice A n c,.slice Bi m d])) (fun _ _ C _=>m - (intOf C).toNat)
 case atStart=>exact⟨0,[],amN _,rfl,O ⟨World.ownsRow_nil _ _ _ _,rfl,fun k l e=>by simp at e⟩,E,H⟩
 case round =>
  obtain⟨k,vs,hkm,rfl,Q,D,G⟩:=hrel;clear E H;have hgp:(rT ⟨aH xs,its⟩ (f+1) its).length=m:=by unfold rT;rw [List.length_map,Z.o]
  by_cases L:k < m
  ·obtain⟨a,S⟩:∃ a,its[k]? = some a:=⟨_,amF (by rw [Z.o];exact L)⟩;obtain⟨i,rfl,hin,N⟩:=V.o a (amO S);obtain⟨kb,ko,I,hkb,K⟩:=HI.o.ex (by rw [Z.o];omega);have kq:wr.cell? ⟨kb,ko+k,none⟩=some (.int .i64 (i:Int)):=(D.o.cell (p:=⟨kb,_,none⟩) hkb).trans (K k _ S);have hbi:=O I;subst I;have c0:wr.cell? ⟨W.heap.size,0,none⟩=some (.slice A n c):=G.o.cell 0;have c1:wr.cell? ⟨W.heap.size,1,none⟩=some (.slice (some ⟨kb,ko,none⟩) m d):=G.o.cell 1;have M:=D.o.size
   have P:(rT ⟨aH xs,its⟩ (f+1) its).take (k+1)=(rT ⟨aH xs,its⟩ (f+1) its).take k ++ [mK ⟨aH xs,its⟩ (f+1) i]:=by
    rw [List.take_succ,show (rT ⟨aH xs,its⟩ (f+1) its)[k]? = some (mK ⟨aH xs,its⟩ (f+1) i) from by unfold rT;rw [List.getElem?_map,S];rfl];rfl
   have Z0:=O P;have F:=O (uE (c:=c) (m:=m) (d:=d) (HX.o.below D.o) hin (show i+1 < f+1 by omega) N);have y0:(0:Int)≤(k:Int):=by omega
   have y1:(k:Int) < (m:Int):=by omega
   have B:((rT ⟨aH xs,its⟩ (f+1) its).take k).length=k:=by rw [List.length_take];omega
   have j:=O B;obtain⟨Av,cv,rfl⟩:=dA Q.o.own;rw [B];clear P K S N hgp B;go_wp2_with fail;refine F.o.mono ?_;rintro e T⟨u,rfl,hu,q⟩;obtain⟨w,x,rfl⟩:=dA (show T.ownsRow 0 107 3 u _ _ from hu);have HU:=O hu;have g:=O (Q.o.below q);have y:=O (D.o.trans (q.mono M));have Jc:=O (G.o.below q G.o.lt);have R:=O (show T.ownsRow W.heap.size 50 1 (.slice Av k cv) k vs from by have:=g.o.own;rw [j.o] at this;exact this);have hvl:vs.length=k:=by rw [g.o.len,j.o]
   have hs2:=y.o.size
   generalize (mK ⟨aH xs,its⟩ (f+1) i).length=pl at *
   clear hu q F c0 c1 kq y0 y1 Q D G M
   go_wp2_with (at_builtin;go_loud (
    refine wpList_append_own _ rfl (.tmp 12) (.tmp 16) 118 rfl W.heap.size 50 i0 _ 1 24 Tryz.underlying118 hi0 hz0 hz1 hz2 rfl (by decide) _ k vs rfl (R.o.alloc _) ⟨T.heap.size,0,none⟩ 1 1 [.slice w pl x] rfl rfl (iK T [.slice w pl x] _) (fun v hv=>by rw [List.mem_singleton.1 hv];rfl) (by simp only [maxLen];omega) (by omega) (by simp;omega) ?_;intro v3 w3 b r _))
   have lU:=O (((g.o.below ((Below.refl _ _).alloc (amL _) (.cells #[.slice w pl x] 50))).add (HU.o.below ((Below.refl _ _).alloc (amL _) (.cells #[.slice w pl x] 50))) (by rw [j.o];exact r) (by rw [j.o];exact b)));have U:=O ((y.o.alloc hs2 (.cells #[.slice w pl x] 50)).grown r (by simp;omega) (fun z hz=>(R.o.lt z hz).1));have Q9:=O ((Jc.o.alloc (.cells #[.slice w pl x] 50)).grown r (fun e=>aW (R.o.alloc (.cells #[.slice w pl x] 50)) (Jc.o.alloc (.cells #[.slice w pl x] 50)) (by decide) e.symm));rw [← Z0.o] at lU
   clear b r g y Jc HU R;go_wp2_with fail;exact⟨⟨k+1,_,by omega,by go_num,lU,U,Q9⟩,by simp [intOf];omega⟩
  ·obtain rfl:k=m:=by omega
   have Y:=O (show Da wr W.heap.size _ (rT ⟨aH xs,its⟩ (f+1) its) vs from by have h:=Q.o;rw [amP (by omega)] at h;exact h);have y1:¬ (k:Int) < (k:Int):=by omega
   clear L;go_wp2_with fail;go_ret;exact⟨_,rfl,⟨_,Y.o⟩,D.o⟩
end
end
set_option linter.all false
end Go.Proofs.YtalghggmkojblaaGreatDoor
namespace Mist
def mO (s:Bs)(k:Nat):Bs × Nat:=if 2000 < s.length∨800 < k then ([],5) else (s,0)
def lH:List (List Pz)→Bs
 | []=>[]
 | l :: r=>dX l ++ 10 :: lH r
def pU (ls:List (List Pz)):Nat:=(ls.map List.length).sum
theorem OV (a:List (List Pz))(l:List Pz):lH (a ++ [l])=lH a ++ (dX l ++ [10]):=by
 induction a with
 | nil=>simp [lH]
 | cons x a b=>simp [lH,b]
theorem Uq (a:List (List Pz))(l:List Pz):pU (a ++ [l])=pU a+l.length:=by simp [pU]
end Mist
namespace Mist
def Sh (l:List Pz):Prop:=∀ p ∈ l,p.text.length≤12
theorem jl:Sh []:=fun _ h=>by cases h
theorem bI {p:Pz}{l:List Pz}(h:p.text.length≤12)(b:Sh l):Sh (p :: l):=fun q a=>by
 rcases List.mem_cons.1 a with rfl | a
 ·exact h
 ·exact b q a
theorem jH {a b:List Pz}(g:Sh a)(h:Sh b):Sh (a ++ b):=fun q e=>by
 rcases List.mem_append.1 e with e | e
 ·exact g q e
 ·exact h q e
theorem sh_head (c:Bool){l:List Pz}(h:Sh l):Sh (cZ c l):=by
 cases l with
 | nil=>exact h
 | cons x l=>exact bI (h x (List.mem_cons_self ..)) fun q a=>h q (List.mem_cons_of_mem _ a)
theorem VJ {L:Nat→List Pz}:∀ m,(∀ j,j < m→Sh (L j))→Sh (gH L m)
 | 0,_=>jl
 | m+1,h=>by
  rw [gH];split
  ·rename_i h0;subst h0;exact h 0 (by omega)
  ·exact jH (VJ m fun j a=>h j (by omega)) (bI (by decide) (sh_head _ (h m (by omega))))
theorem ag9 {T:Tr}{B:Nat→List Pz}{i j:Nat}(h:Sh (B ((nd T i).kids.getD j 0).toNat)):Sh (dU T B i j):=by
 unfold dU;simp only
 split
 ·exact h
 ·exact bI (by decide) (jH (sh_head _ h) (bI (by decide) jl))
theorem ac3 (k:Nat):(Ej k).length≤12:=by
 by_cases h:k < 18
 ·have:∀ j:Fin 18,(Ej j.val).length≤12:=by decide
  exact this ⟨k,h⟩
 ·unfold Ej
  (repeat rw [if_neg (by omega)])
  decide
theorem Ar {n:Int}(h:n < 10000)(h0:0≤n):(Go.Lib.itoa n).length≤12:=by
 have:=(JD h0 h).2.2
 omega
theorem abV {T:Tr}{B:Nat→List Pz}{i:Nat}(h:RtZ T i)(t:NmZ (nd T i))(u:∀ j,j < (nd T i).kids.length→Sh (B ((nd T i).kids.getD j 0).toNat)):Sh (bQ T B i):=by
 have gk:∀ j,j < (nd T i).kids.length→Sh (dU T B i j):=fun j r=>ag9 (u j r)
 have b:∀ m,m≤(nd T i).kids.length→Sh (ig T B i m):=fun m x=>VJ m fun j r=>gk j (by omega)
 obtain⟨c1,c2,c3,c4⟩:=h.cases;have nm:∀ {k:Nat},(nd T i).kind=k→iM k=true→(nd T i).text.length≤12:=fun e v=>(Dw (h.nm e v)).2
 have g:(nd T i).kind=1∨(nd T i).kind=2∨(nd T i).kind=3∨(nd T i).kind=32∨(nd T i).kind=4∨(nd T i).kind=5∨(6≤(nd T i).kind∧(nd T i).kind≤18)∨(nd T i).kind=19∨(nd T i).kind=20∨(nd T i).kind=21∨(nd T i).kind=22∨(nd T i).kind=23∨(nd T i).kind=24∨(nd T i).kind=25∨(nd T i).kind=34∨(nd T i).kind=26∨(nd T i).kind=30∨(nd T i).kind=31∨(nd T i).kind=33∨(nd T i).kind=40∨(nd T i).kind=41∨(nd T i).kind=42∨(nd T i).kind=43∨(nd T i).kind=44∨(nd T i).kind=45∨(nd T i).kind=46:=by omega
 rcases g with e | e | e | e | e | e | e | e | e | e | e | e | e | e | e | e | e | e | e | e | e | e | e | e | e | e
 ·rw [wM e];have l:=aen e h.num;unfold nG;split
  ·exact bI (by simp [tz]) (bI (Ar (by omega) (by omega)) jl)
  ·exact bI (Ar (by omega) (by omega)) jl
 ·rw [E8 e];split <;> exact bI (by simp [tz]) jl
 ·rw [E9 e];exact bI (nm e (by decide)) jl
 ·rw [Bo e];exact bI (nm e (by decide)) jl
 ·rw [E_ e];have a:=h.len e (many1 (by decide));exact bI (by simp [tz]) (sh_head _ (gk 0 (by omega)))
 ·rw [Fa e];have a:=h.len e (many1 (by decide));exact bI (by simp [tz]) (sh_head _ (gk 0 (by omega)))
 ·rw [BH (.inr (.inl e))];have a:=h.len rfl (uQ (.inl e));exact jH (gk 0 (by omega)) (bI (ac3 _) (sh_head _ (gk 1 (by omega))))
 ·rw [AV e];have a:=h.len e abQ;exact bI (by simp [tz]) (jH (sh_head _ (gk 0 (by omega))) (bI (by decide) (jH (sh_head _ (gk 1 (by omega))) (bI (by decide) (sh_head _ (gk 2 (by omega)))))))
 ·rw [AX e];have a:=h.len e (uQ (by omega));exact bI (by simp [tz]) (bI (nm e (by decide)) (bI (by decide) (jH (sh_head _ (gk 0 (by omega))) (bI (by decide) (sh_head _ (gk 1 (by omega)))))))
 ·rw [AY e];exact bI (nm e (by decide)) (bI (by decide) (jH (sh_head _ (b _ (amL _))) (bI (by decide) jl)))
 ·rw [AZ e];have a:=h.len e (many1 (by decide));exact jH (gk 0 (by omega)) (bI (by simp [tz]) (bI (nm e (by decide)) jl))
 ·rw [A_ e];have a:=h.len e (uQ (by omega));exact jH (gk 0 (by omega)) (bI (by simp [tz]) (jH (sh_head _ (gk 1 (by omega))) (bI (by decide) jl)))
 ·rw [Bb e];exact bI (nm e (by decide)) (bI (by decide) (jH (sh_head _ (b _ (amL _))) (bI (by decide) jl)))
 ·rw [Bf e];have a:=h.len e (many1 (by decide));exact bI (nm e (by decide)) (bI (by decide) (sh_head _ (gk 0 (by omega))))
 ·rw [Bt e];have a:=h.len e (many1 (by decide));exact bI (nm e (by decide)) (bI (by decide) (sh_head _ (gk 0 (by omega))))
 ·rw [Bg e];exact bI (by simp [tz]) (jH (sh_head _ (b _ (amL _))) (bI (by decide) jl))
 ·rw [Bh e];exact bI (by simp [tz]) jl
 ·rw [Bl e];exact bI (by simp [tz]) jl
 ·rw [Br e];have a:=h.len e (many1 (by decide));have l:=t.Vo e;exact bI (by simp [tz]) (jH (sh_head _ (gk 0 (by omega))) (bI (by decide) (bI (Ar (by omega) (by omega)) (bI (by decide) jl))))
 ·rw [Bu e];have a:=h.len e (uQ (by omega));exact bI (by simp [tz]) (bI (nm e (by decide)) (bI (by decide) (jH (sh_head _ (gk 0 (by omega))) (bI (by decide) (jH (sh_head _ (gk 1 (by omega))) (bI (by decide) jl))))))
 ·rw [Bw e];exact bI (by simp [tz]) (bI (nm e (by decide)) (bI (by decide) (bI (by decide) (jH (sh_head _ (b _ (amL _))) (bI (by decide) (bI (by decide) jl))))))
 ·rw [Bz e];have a:=Te _ e h.many;have l:=t.fn e;refine bI (by simp [tz]) (bI (nm e (by decide)) (bI (by decide) (jH (sh_head _ (b _ (by omega))) (bI (by decide) (bI (by decide) (jH (sh_head _ (gk _ (by omega))) (jH ?_ (bI (by decide) (jH (sh_head _ (gk _ (by omega))) (bI (by decide) jl))))))))));split
  ·exact bI (by decide) (bI (Ar (by omega) (by omega)) jl)
  ·exact jl
 ·rw [BA e];have a:=h.len e (many1 (by decide));exact bI (by simp [tz]) (bI (nm e (by decide)) (bI (by decide) (jH (sh_head _ (gk 0 (by omega))) (bI (by decide) jl))))
 ·rw [BD e];have a:=h.len e (many1 (by decide));exact bI (by simp [tz]) (bI (nm e (by decide)) (bI (by decide) (jH (sh_head _ (gk 0 (by omega))) (bI (by decide) jl))))
 ·rw [BF e];exact bI (by simp [tz]) (bI (nm e (by decide)) (bI (by decide) jl))
 ·rw [BG e];have l:=abZ e h.num;have w:∀ q:Fin 9,(lJ.getD q.val []).length≤12:=by decide
  exact bI (by simp [tz]) (bI (w ⟨(nd T i).n.toNat,by omega⟩) (jH (sh_head _ (b _ (amL _))) (bI (by decide) jl)))
theorem zG {T:Tr}(a:Ru T):∀ f i,i < T.nodes.length→Sh (aQ T f i)
 | 0,_,_=>jl
 | f+1,i,hi=>abV (rtZ (a.right i hi)) (a.num i hi) fun j e=>by
  obtain⟨q,b,g⟩:=a.kid hi e;rw [amJ,b];exact zG a f q (by omega)
theorem tT:∀ {l:List Pz},Sh l→(dX l).length≤13 * l.length
 | [],_=>amL _
 | p :: l,h=>by
  have h1:=h p (List.mem_cons_self ..);have h2:=tT (l:=l) fun q a=>h q (List.mem_cons_of_mem _ a)
  have e:dX (p :: l)=(if p.blank then [32] else []) ++ (p.text ++ dX l):=rfl;rw [e,amQ,amQ,List.length_cons];split <;> simp <;> omega
end Mist
set_option linter.all false
namespace Go.Proofs.YtalghggmkojblaaGreatDoor
section
open Go.RowKit Mist
attribute [local go_sem] ak aN aV aF aj
theorem tK {w j:World}{g base e size n:Nat}{v:Value}{xs:List Value}(h:w.ownsRow base e size v n xs)(x:lC g w j)(l:v.ownBlock ≠ some g)(q:e ≠ 5):j.ownsRow base e size v n xs:=by
 refine⟨h.1,?_⟩
 rcases h.2 with h2 | ⟨b,cap,a,hv,t,u,r⟩
 ·exact .inl h2
 ·exact .inr ⟨b,cap,a,hv,t,x.cell u (fun k=>l (by rw [hv,k];rfl)) q,r⟩
theorem Da.spare {w r:World}{g base T:Nat}{cs:Array Value}{v:Value}{ls:List (List Pz)}{vs:List Value}(h:Da w base v ls vs)(q:lC g w r)(j:bY w g T cs)(h1:T ≠ 50)(h2:T ≠ 107):Da r base v ls vs :=
 ⟨tK h.own q (aW h.own j (Ne.symm h1)) (by decide),h.len,fun k l e=>by
  obtain⟨u,a,b⟩:=h.row k l e;have b:w.ownsRow 0 107 3 u l.length (gW l):=b;exact⟨u,a,tK b q (aW b j (Ne.symm h2)) (by decide)⟩⟩
theorem Cw.blk {T B g:Nat}{a:Bs}{w:World}(h:Cw T B g [] a w):∃ cs,bY w g T cs:=by
 obtain⟨p,_,v,b,_⟩:=h.any;exact⟨_,b⟩
theorem Qi (s:Bs)(k:Nat)(W:World):Calls Tryz.prog 44 #[.string (aG s),.int .i64 k] W fun e g=>e=.returned (.tuple #[.string (aG (mO s k).1),.int .i64 ((mO s k).2:Nat)])∧g=W:=by
 obtain⟨n,a⟩:∃ n,n=s.length:=⟨_,rfl⟩;have j:=O a;by_cases h1:2000 < n
 ·have b:=O (show mO s k=([],5) from by unfold mO;rw [if_pos (by rw [← a];exact .inl h1)]);have z:(2000:Int) < (s.length:Int):=by omega
  clear a h1;go_in
  go_wp2_with fail;go_ret2
  exact⟨by rw [b.o];rfl,rfl⟩
 ·have z:¬ (2000:Int) < (s.length:Int):=by omega
  by_cases h2:800 < k
  ·have b:=O (show mO s k=([],5) from by unfold mO;rw [if_pos (.inr h2)]);have h:(800:Int) < (k:Int):=by omega
   clear a h1 h2;go_in
   go_wp2_with fail;go_ret2
   exact⟨by rw [b.o];rfl,rfl⟩
  ·have b:=O (show mO s k=(s,0) from by unfold mO;rw [if_neg (by rw [← a];omega)]);have h:¬ (800:Int) < (k:Int):=by omega
   clear a h1 h2;go_in
   go_wp2_with fail;go_ret2
   exact⟨by rw [b.o];rfl,rfl⟩
theorem afh {W:World}{v:Value}{l:List Pz}(h:xB W v l)(g:Sh l)(u:l.length≤100000) :
  Calls Tryz.prog 15 #[v] W fun e r=>e=.returned (.tuple #[.string (aG (mO (dX l) l.length).1),.int .i64 ((mO (dX l) l.length).2:Nat)])∧Below W.heap.size W r:=by
 obtain⟨A,c,rfl,a⟩:=h.form;have k:=O (Um A c l W a (by omega) (by have:=tT g;omega));have q:=O fun W=>Qi (dX l) l.length W
 generalize l.length=m at *
 clear h a g;go_in
 go_wp2_with fail;refine k.o.mono ?_;rintro e t⟨rfl,b⟩;have j:=O b;clear b;go_wp2_with fail;refine (q.o t).mono ?_;rintro e w⟨rfl,rfl⟩;go_wp2_with fail;go_ret2
 exact⟨rfl,j.o⟩
section
variable {W:World} {A Bi:Option Addr} {n c m d:Nat} {xs:List NV} {its:List Int}
def GZ (T:Tr):List (List Pz):=rT T (T.nodes.length+2) T.items
theorem Po {T:Tr}(b:Ru T)(e:∀ a ∈ T.items,∃ i:Nat,a=(i:Int)∧i < T.nodes.length):∀ l ∈ GZ T,Sh l∧l.length≤12 * T.nodes.length:=by
 intro l g;unfold GZ rT at g
 obtain⟨a,h,rfl⟩:=List.mem_map.1 g;obtain⟨i,rfl,hi⟩:=e a h
 refine⟨sh_head _ (zG b _ _ hi),?_⟩
 have:=Jg b.right b.fo (f:=T.nodes.length+2) hi (by omega)
 unfold mK;rw [au];simp only [amS];omega
theorem abL {ls:List (List Pz)}{K:Nat}(h:∀ l ∈ ls,Sh l∧l.length≤K):(lH ls).length≤ls.length * (13 * K+1)∧pU ls≤ls.length * K:=by
 induction ls with
 | nil=>simp [lH,pU]
 | cons l ls b =>
  have h1:=h l (List.mem_cons_self ..);have h2:=b fun x a=>h x (List.mem_cons_of_mem _ a)
  have h3:=tT h1.1;have e:pU (l :: ls)=l.length+pU ls:=by simp [pU]
  rw [e];simp only [lH,amQ,List.length_cons,Nat.add_mul,Nat.one_mul];omega
end
end
set_option linter.all false
section
open Go.RowKit Mist
attribute [local go_sem] ak aN aV aF aj
def Cc (T:Tr):Bs × Nat:=mO (lH (GZ T)) (pU (GZ T))
section
variable {W:World} {A Bi:Option Addr} {n c m d:Nat} {xs:List NV} {its:List Int}
def aga (T:Tr):Prop:=∀ a ∈ T.items,∃ i:Nat,a=(i:Int)∧i < T.nodes.length∧fM (nd T i).kind=true
theorem ae8 {ls:List (List Pz)}{K:Nat}(h:∀ l ∈ ls,Sh l∧l.length≤K)(b:K≤12000)(e:ls.length≤1000)(k:Nat):(lH (ls.take k)).length≤200000000∧pU (ls.take k)≤20000000:=by
 have h1:=abL (ls:=ls.take k) (K:=K) fun l a=>h l (List.mem_of_mem_take a)
 have h2:(ls.take k).length≤1000:=by rw [List.length_take];omega
 have h3:(ls.take k).length * (13 * K+1)≤1000 * 156001:=Nat.mul_le_mul h2 (by omega);have h4:(ls.take k).length * K≤1000 * 12000:=Nat.mul_le_mul h2 (by omega);omega
theorem Ye (X:WX W A Bi n xs its)(hm:its.length=m)(Q:aga ⟨aH xs,its⟩)(U:m≤1000) :
  Calls Tryz.prog 36 #[.agg #[.slice A n c,.slice Bi m d]] W fun e W'=>e=.returned (.tuple #[.string (aG (Cc ⟨aH xs,its⟩).1),.int .i64 ((Cc ⟨aH xs,its⟩).2:Nat)])∧Below W.heap.size W W':=by
 have j:=X.nodes;obtain⟨ls,h⟩:∃ ls,ls=GZ ⟨aH xs,its⟩:=⟨_,rfl⟩;have r:ls.length=m:=by rw [h];unfold GZ rT;rw [List.length_map];exact hm
 have UC:=O (ae8 (ls:=ls) (K:=12 * n) (by rw [h,← j];exact Po X.ok fun a G=>by obtain⟨i,h1,h2,_⟩:=Q a G;exact⟨i,h1,h2⟩) (by have:=X.few;omega) (by rw [r];exact U));have Rh:=O (show ∀ l ∈ ls,Sh l∧l.length≤12 * n from by rw [h,← j];exact Po X.ok fun a G=>by obtain⟨i,h1,h2,_⟩:=Q a G;exact⟨i,h1,h2⟩);have HPT:=O (show Cc ⟨aH xs,its⟩=mO (lH ls) (pU ls) from by rw [h];rfl);have g:=O r;have HN:=O X.few;have e1:(W.alloc (.cells #[.slice A n c,.slice Bi m d] 28)).heap.size=W.heap.size+1:=by simp
 have x:=O (((Below.refl W.heap.size W).alloc (amL _) (.cells #[.slice A n c,.slice Bi m d] 28)).alloc (by simp) (.cells #[.pointer none,.slice none 0 0] 59));have J:=Cw.fresh 59 [] (W.alloc (.cells #[.slice A n c,.slice Bi m d] 28));rw [e1] at J
 have D:=O J
 have P:=O (aeh (c:=c) (d:=d) (f:=n+1) (X.below x.o) hm (amL _) (by
  rcases Nat.eq_zero_or_pos n with h0 | h0
  ·right
   rcases Nat.eq_zero_or_pos m with h1 | h1
   ·exact h1
   ·obtain⟨a,G⟩:∃ a,a ∈ its:=by
     cases its with
     | nil=>simp at hm;omega
     | cons a t=>exact⟨a,List.mem_cons_self ..⟩
    obtain⟨i,_,h2,_⟩:=Q a G;rw [j] at h2;omega
  ·exact .inl h0) (fun a G=>by obtain⟨i,h1,h2,h3⟩:=Q a G;exact⟨i,h1,by rw [j] at h2;exact h2,h3⟩) U)
 have HLS:=O (show rT ⟨aH xs,its⟩ (n+1+1) its=ls from by rw [h];unfold GZ;rw [j]);have C:((W.alloc (.cells #[.slice A n c,.slice Bi m d] 28)).alloc (.cells #[.pointer none,.slice none 0 0] 59)).heap.size=W.heap.size+2:=by simp
 clear X hm Q h r J e1 j;go_in
 go_wp2_with fail;refine P.o.mono ?_;rintro e w3⟨v,vs,rfl,hL,I⟩;rw [HLS.o] at hL
 have N:=O (x.o.trans (I.mono x.o.size));have Iy:=O (D.o.below I);have lU:=O hL;obtain⟨Av,cv,rfl⟩:=dA hL.own;rw [C] at lU
 rw [g.o] at lU ⊢
 clear hL I D P x C;go_wp2_with fail;go_loopw [5,7,11] (fun v5 _ M wr=>∃ k:Nat,k≤m∧M=.int .i64 k∧v5=.int .i64 (pU (ls.take k):Nat)∧Hid (Cw 59 (W.heap.size+1) (W.heap.size+1) [] (lH (ls.take k)) wr)∧Hid (Da wr (W.heap.size+2) (.slice Av m cv) ls vs)∧Hid (Below W.heap.size W wr)) (fun _ _ M _=>m - (intOf M).toNat)
 case atStart=>exact⟨0,amN _,rfl,rfl,Iy,lU,N⟩
 case round =>
  obtain⟨k,hkm,rfl,rfl,D,HL,HB⟩:=hrel;clear Iy lU N;by_cases T:k < m
  ·obtain⟨l,hl⟩:∃ l,ls[k]? = some l:=⟨_,amF (by rw [g.o];exact T)⟩;obtain⟨u,hu,Y⟩:=HL.o.row k l hl;obtain⟨Au,cu,rfl,V⟩:=Y.form;have w:wr.ownsRow (W.heap.size+2) 50 1 (.slice Av m cv) m vs:=by have:=HL.o.own;rw [g.o] at this;exact this
   obtain⟨gp,cap,hv,_⟩:=w.form (by omega);injection hv with hv1 hv2 hv3
   subst hv1;subst hv3;clear hv2;have kq:wr.cell? ⟨gp,k,none⟩=some (.slice Au l.length cu):=by rw [w.cellAt k (by omega)];exact hu
   have B:=amO hl;have y:=(Rh.o l B);have L:ls.take (k+1)=ls.take k ++ [l]:=by rw [List.take_succ,hl];rfl
   have Uz:=O (show lH (ls.take (k+1))=lH (ls.take k) ++ (dX l ++ [10]) from by rw [L,OV]);have IB:=O (show pU (ls.take (k+1))=pU (ls.take k)+l.length from by rw [L,Uq]);have H:=UC.o (k+1);rw [Uz.o,IB.o,amQ] at H
   have E:=O H;have xM:=O (Um Au cu l wr V (by have:=y.2;have:=HN.o;omega) (by have:=tT y.1;have:=y.2;have:=HN.o;omega));obtain⟨q,hq⟩:∃ q,q=l.length:=⟨_,rfl⟩;obtain⟨tk,Du⟩:∃ t,t=pU (ls.take k):=⟨_,rfl⟩;rw [← hq] at kq xM
   rw [← Du];have HQ:=O hq;have Z0:=O Du;have hcc:¬ 9223372036854775807 < (dX l).length+1:=by have:=E.o.1;rw [amQ] at this;omega
   have y0:(0:Int)≤(k:Int):=by omega
   have y1:(k:Int) < (m:Int):=by omega
   have ws:wrap64 ((tk:Int)+(q:Int))=((tk+q:Nat):Int):=by have:=E.o.2;rw [← Du,← hq] at this;unfold wrap64;omega
   clear hl hu Y V w B y L H hq Du;go_wp2_with fail;refine xM.o.mono ?_;rintro e w4⟨rfl,b⟩;have Cz:=O (HB.o.trans (b.mono HB.o.size));have EJ:=O (HL.o.below b);have MW:=O (D.o.below b);clear b kq HB HL D xM;go_wp2_with fail;refine (jm 59 2 (W.heap.size+1) (W.heap.size+1) lZ [] (lH (ls.take k)) (dX l ++ [10]) w4 MW.o rfl (by have:=E.o.1;rw [amQ] at this ⊢;omega) (by have:=MW.o.lt;omega)).mono ?_;rintro e w5⟨rfl,F,R,Z⟩;obtain⟨bcs,S⟩:=MW.o.blk;have qZ:=O (EJ.o.spare Z S (by decide) (by decide));have fG:=O (Cz.o.trans (R.mono (by omega)));rw [← Uz.o] at F
   have MX:=O F;clear F R Z S Cz EJ MW;go_wp2_with fail;exact⟨⟨k+1,by omega,by go_num,by rw [IB.o,← Z0.o,← HQ.o,ws],MX,qZ,fG⟩,by simp [intOf];omega⟩
  ·obtain rfl:k=m:=by omega
   have y1:¬ (k:Int) < (k:Int):=by omega
   have htl:ls.take k=ls:=amP (by rw [g.o];omega);rw [htl] at D ⊢
   have ajt:=D.o.lt;clear T htl;go_wp2_with fail;refine (uH 59 (W.heap.size+1) (W.heap.size+1) [] (lH ls) wr D.o (by omega)).mono ?_;rintro e w4⟨rfl,b⟩;have Cz:=O (HB.o.trans (b.mono (by omega)));clear b;go_wp2_with fail;refine (Qi (lH ls) (pU ls) w4).mono ?_;rintro e w5⟨rfl,rfl⟩;go_wp2_with fail;go_ret2
   exact⟨by rw [HPT.o];rfl,Cz.o⟩
end
end
