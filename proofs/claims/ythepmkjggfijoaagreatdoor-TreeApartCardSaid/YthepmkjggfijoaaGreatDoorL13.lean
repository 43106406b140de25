/-
  A part of the proof.
-/
import Derived.Test.YthepmkjggfijoaaGreatDoorSA
import Derived.BigQuiet
import Derived.Test.YthepmkjggfijoaaGreatDoorS31
import Derived.Test.YthepmkjggfijoaaGreatDoorS22
import Derived.Test.YthepmkjggfijoaaGreatDoorS29
import Derived.Test.YthepmkjggfijoaaGreatDoorL03
import Derived.Test.YthepmkjggfijoaaGreatDoorL04
import Derived.Test.YthepmkjggfijoaaGreatDoorL11
import Derived.Test.YthepmkjggfijoaaGreatDoorL12
set_option linter.all false
set_option maxRecDepth 100000
set_option maxHeartbeats 4000000
namespace Go.Proofs.YthepmkjggfijoaaGreatDoor
open Go.RowKit Mist
theorem BP:strip default=(default:Nd):=rfl
theorem zD (ns:List Nd)(c:Int):dB (ns.map strip) c=dB ns c:=by
 unfold dB
 have:(ns.map strip).getD c.toNat default=strip (ns.getD c.toNat default):=by
  rw [aaH,aaH,List.getElem?_map]
  cases ns[c.toNat]? with
  | none=>exact BP.symm
  | some x=>rfl
 rw [this];rfl
theorem zB (x:Nd):∀ (a:List (Nat × Bool)) (i:Nat),oJ (strip x) i a=oJ x i a
 | [],_=>rfl
 | q :: r,i=>by
  show (ru (strip x) i q && oJ (strip x) (i+1) r)=(ru x i q && oJ x (i+1) r)
  rw [zB x r];rfl
theorem Nj {x:Nd}{a:List (Nat × Bool)}(h:okB x a=true):okB (strip x) a=true:=by
 unfold okB at h ⊢
 rw [zB];simp only [aaS] at h ⊢
 obtain⟨⟨⟨⟨⟨⟨h1,h2⟩,h3⟩,h4⟩,h5⟩,h6⟩,h7⟩:=h;exact⟨⟨⟨⟨⟨⟨h1,h2⟩,h3⟩,h4⟩,h5⟩,rfl⟩,h7⟩
theorem EC {ns:List Nd}(h:jN ns):jN (ns.map strip):=by
 intro i n a;rw [List.getElem?_map] at a
 obtain⟨x,b,rfl⟩:=Option.map_eq_some_iff.1 a
 have:=h i x b
 unfold uP at this ⊢
 rw [show (strip x).kids.map (dB (ns.map strip))=x.kids.map (dB ns) from List.map_congr_left fun c _=>zD ns c];exact Nj this
theorem SI {ns:List Nd}(h:Wf ns):Wf (ns.map strip):=by
 intro i n a;rw [List.getElem?_map] at a
 obtain⟨x,b,rfl⟩:=Option.map_eq_some_iff.1 a;exact h i x b
theorem Qq {ns:List Nd}{a b:Nat}{c:List Int}(h:Fo ns a b c):Fo (ns.map strip) a b c:=by
 induction h with
 | nil a=>exact .nil a
 | @snoc a m b qs0 n _ _ e i j=>exact .snoc (n:=strip n) i j (by rw [List.getElem?_map,e];rfl)
structure JO (ay:Bool) (b:Bs) (T:Tr):Prop where
 read:Mist.read (cK ay b)=(fO 0 (grown ay b).pc,0,0)
 pf:PF (fO 0 (grown ay b).pc)
 prog:∃ n,prog (fO 0 (grown ay b).pc) ((cK ay b).length:Int) n 13 0 [] []=some (.ok T.items (fO 0 (grown ay b).pc).length T.nodes)
 items:T.items=(iK ay b).items
 bare:T.nodes.map strip=(iK ay b).nodes
 fine:dX T
 own:dX (iK ay b)
 len:(cK ay b).length≤2000
theorem QC (c:Bool)(b:Bs)(h:qE (cK c b)=true):∃ T,JO c b T:=by
 obtain⟨t,w⟩:=Ht c b h;obtain⟨r,e,A⟩:=Mist.rX t;obtain⟨d,n,j,m,q⟩:=Dt c b ((cK c b).length:Int);obtain⟨h1,h2,h3,h4⟩:=vE (en:=((cK c b).length:Int)) r n 13 0 [] [] _ _ _ (fun i n h=>by simp at h) (fun i n h=>by simp at h) (.nil _) (fun a h=>by cases h) q;have l:=F7 c b;have y:(fO 0 (grown c b).pc).length≤800:=by rw [mW];exact w
 have few:d.length≤800:=by
  have h5:=l.few
  have:d.length=(iK c b).nodes.length:=by rw [← List.length_map (f:=strip),j];rfl
  omega
 have C:∀ x ∈ d,Gz d x:=fun x e=>by
  refine Gz.strip ?_;rw [j];refine l.sz _ ?_
  show strip x ∈ (grown c b).st.ns
  rw [← j];exact List.mem_map.2 ⟨x,e,rfl⟩
 have B:∀ k ∈ (grown c b).ix,oL d 11 k:=fun k v=>by
  refine oL.strip ?_;rw [j];exact l.ht k v
 have F:dX ⟨d,(grown c b).ix⟩:=⟨h1,h2,h3,h4,fun x e=>(C x e).sized,B,few,m⟩;have g:(⟨d,(grown c b).ix⟩:Tr).nodes.map strip=(iK c b).nodes:=j
 refine⟨⟨d,(grown c b).ix⟩,⟨t,⟨by omega,r.kind,e⟩,⟨n,q⟩,rfl,g,F,?_,A⟩⟩
 refine⟨?_,?_,?_,?_,fun x e=>(l.sz x e).sized,l.ht,?_,m⟩
 ·rw [← g];exact EC h1
 ·rw [← g];exact SI h2
 ·rw [← g,List.length_map];exact Qq h3
 ·intro a u;rw [← g,zD];exact h4 a u
 ·rw [← g,List.length_map];exact few
theorem FP {f:Bool}{b:Bs}{T:Tr}(G:JO f b T)(w:World)(g:Env w) :
  Calls Tryz.prog 17 #[.string (aM (cK f b))] w fun e a=>Below w.heap.size w a∧∃ A B c d xs,e=.returned (.tuple #[.agg #[.slice A T.nodes.length c,.slice B T.items.length d],.int .i64 0,.int .i64 0])∧aA xs=T.nodes∧mq a A B xs T.items:=by
 obtain⟨n,j⟩:=G.prog;have q:=G.len;refine (Mt w G.read G.pf j g (by omega) G.fine.good G.fine.parsed).mono ?_;rintro e a ⟨i,A,B,c,d,xs,rfl,k,l,m,h⟩;exact⟨i,A,B,c,d,xs,rfl,k,h⟩
end Go.Proofs.YthepmkjggfijoaaGreatDoor
namespace Go.Proofs.YthepmkjggfijoaaGreatDoor
end Go.Proofs.YthepmkjggfijoaaGreatDoor
namespace Go.Proofs.YthepmkjggfijoaaGreatDoor
open Go.RowKit Mist
attribute [local go_sem] aj aH aS aB ak
theorem SE {xs ys:List NV}(a:(aA xs).map strip=(aA ys).map strip){k:Nat}{x y:NV}(b:xs[k]? = some x)(hy:ys[k]? = some y):x.1.kind=y.1.kind∧x.1.text=y.1.text∧x.1.n=y.1.n∧x.1.kids=y.1.kids:=by
 have h:=congrArg (fun l=>l[k]?) a;simp only [List.getElem?_map,gP b,gP hy] at h
 have h:strip x.1=strip y.1:=aaP h;exact⟨(by have:=congrArg Nd.kind h;exact this),(by have:=congrArg Nd.text h;exact this),(by have:=congrArg Nd.n h;exact this),(by have:=congrArg Nd.kids h;exact this)⟩
theorem Ar (w:World)(P Q:Array Value):aC ((w.alloc (.cells P 50)).alloc (.cells Q 50)).drew w.heap.size 50 P∧aC ((w.alloc (.cells P 50)).alloc (.cells Q 50)).drew (w.heap.size+1) 50 Q∧Below w.heap.size w ((w.alloc (.cells P 50)).alloc (.cells Q 50)).drew:=by
 have a:Below ((w.alloc (.cells P 50)).alloc (.cells Q 50)).heap.size _ _:=Below.drew (Below.refl _ ((w.alloc (.cells P 50)).alloc (.cells Q 50)))
 refine⟨((aC.new w 50 P).alloc _).below a (by simp;omega),(dL (W:=w.alloc (.cells P 50)) (T:=50) (cs:=Q) (k:=w.heap.size+1) (by simp)).below a (by simp),Below.drew (ah (ah (Below.refl _ _) (aaJ _)) (by simp))⟩
theorem O6 (A B R K:Option Addr)(c d c2 q n m:Nat)(xs ys:List NV)(a:List Int)(w:World)(h1:mq w A B xs a)(h2:mq w R K ys a)(he:(aA xs).map strip=(aA ys).map strip)(r:xs.length=n)(E:ys.length=n)(a4:a.length=m)(hn:n≤10000)(hm:m≤10000) :
  Calls Tryz.prog 46 #[.agg #[.slice A n c,.slice B m d],.agg #[.slice R n c2,.slice K m q]] w fun e w'=>e=.returned (.bool true)∧Below w.heap.size w w':=by
 have HE:=O he;clear he;have a2:=O r;clear r;have a3:=O E;clear E;have a1:=O a4;clear a4;have D:Below w.heap.size w ((w.alloc (.cells #[.slice A n c,.slice B m d] 26)).alloc (.cells #[.slice R n c2,.slice K m q] 26)):=ah (ah (Below.refl _ _) (aaJ _)) (by simp);have t:=O D;have uD:=O ((aC.new w 26 #[.slice A n c,.slice B m d]).alloc (.cells #[.slice R n c2,.slice K m q] 26));have QJ:=O (dL (W:=w.alloc (.cells #[.slice A n c,.slice B m d] 26)) (T:=26) (cs:=#[.slice R n c2,.slice K m q]) (k:=w.heap.size+1) (by simp));have H1:=O (h1.below D);have H2:=O (h2.below D);clear h1 h2 D;have k0:((n:Int) != (n:Int))=false:=by simp
 go_in
 go_wp2_with fail
 generalize (w.alloc (.cells #[.slice A n c,.slice B m d] 26)).alloc (.cells #[.slice R n c2,.slice K m q] 26)=w0 at t uD QJ H1 H2 ⊢
 refine (Z7 B K m d q a a _ a1.o a1.o (by omega) H1.o.items H2.o.items).mono ?_;rintro e w1⟨rfl,h⟩;have a0:=O (t.o.trans (h.mono t.o.size));have L:=O (uD.o.below h uD.o.lt);have M:=O (QJ.o.below h QJ.o.lt);have H3:=O (H1.o.below h);have H4:=O (H2.o.below h);clear h t uD QJ H1 H2;have k1:decide (a=a)=true:=aaU rfl;have t0:=L.o.cell 0;have u0:=M.o.cell 0;go_wp2_with fail;go_loopw [5] (fun i wr=>∃ k:Nat,k≤n∧i=.int .i64 k∧Hid (Below w1.heap.size w1 wr)) (fun i _=>n - (intOf i).toNat)
 case atStart=>exact⟨0,aaL _,rfl,O (Below.refl _ _)⟩
 case round =>
  obtain⟨Y,rfl⟩:∃ Y:World,Y=wr:=⟨_,rfl⟩;obtain⟨k,hk,rfl,u⟩:=hrel;clear t0 u0;have Z:=O (L.o.below u.o L.o.lt);have Bo:=O (M.o.below u.o M.o.lt);have t0:=Z.o.cell 0;have u0:=Bo.o.cell 0;by_cases a5:k < n
  ·obtain⟨x,H⟩:∃ x,xs[k]? = some x:=jD (by rw [a2.o];exact a5);obtain⟨y,hy⟩:∃ y,ys[k]? = some y:=jD (by rw [a3.o];exact a5);obtain⟨e1,e2,e3,e4⟩:=SE HE.o H hy;obtain⟨b,o,hA,J⟩:=(H3.o.below u.o).nodes (by rw [a2.o];omega);obtain⟨b2,o2,C,G⟩:=(H4.o.below u.o).nodes (by rw [a3.o];omega);have c0:=J.c0 k x H;have c1:=J.c1 k x H;have c2:=J.c2 k x H;have c3:=J.c3 k x H;have c4:=J.c4 k x H;have d0:=G.c0 k y hy;have d1:=G.c1 k y hy;have q:=G.c2 k y hy;have d3:=G.c3 k y hy;have d4:=G.c4 k y hy;have l1:=J.lt;have l2:=G.lt;have l3:=Z.o.lt;have l4:=Bo.o.lt;obtain⟨S,V,a6,r,a7⟩:=J.kid H;obtain⟨U,X,a8,E,Q⟩:=G.kid hy;rw [a6] at c3
   rw [a8,← e4] at d3
   rw [← e4] at Q
   rw [← e1] at d0
   rw [← e2] at d1
   rw [← e3] at q
   rw [hA] at t0
   rw [C] at u0
   have tK:=O a7;have N:=O Q;obtain⟨⟨kd,tx,I,F,at_⟩,xv⟩:=x;obtain⟨⟨b1,b5,b4,b3,v⟩,yv⟩:=y;simp only at c0 c1 c2 c3 c4 d0 d1 q d3 d4 r tK N
   have a9:=O hA;have b0:=O C;obtain⟨f,P⟩:∃ f,f=F.length:=⟨_,rfl⟩;rw [← P] at c3 d3 r
   have nu:=O P;clear H hy e1 e2 e3 e4 hA C J G a6 a8 E a7 Q P;have y0:(0:Int)≤(k:Int):=by omega
   have y1:(k:Int) < (n:Int):=by omega
   go_wp2_with fail;go_region
   ·obtain⟨hP,hQ,C⟩:=Ar Y #[.int .u8 kd,.string (aM tx),.int .i64 I,.slice S f V,.int .i64 at_] #[.int .u8 kd,.string (aM tx),.int .i64 I,.slice U f X,.int .i64 v];have j:=O hP;have l:=O hQ;have g:=O C;clear hP hQ C
    generalize (((Y.alloc (.cells #[.int .u8 kd,.string (aM tx),.int .i64 I,.slice S f V,.int .i64 at_] 50)).alloc (.cells #[.int .u8 kd,.string (aM tx),.int .i64 I,.slice U f X,.int .i64 v] 50)).drew)=w5 at j l g ⊢
    have p0:=j.o.cell 0;have p1:=j.o.cell 1;have p2:=j.o.cell 2;have p3:=j.o.cell 3;have q0:=l.o.cell 0;have q1:=l.o.cell 1;have q2:=l.o.cell 2;have q3:=l.o.cell 3;clear c0 c1 c2 c3 c4 d0 d1 q d3 d4 t0 u0;go_wp2_with fail;refine (Z7 S U f V X F F _ nu.o.symm nu.o.symm (by omega) (tK.o.below g.o) (N.o.below g.o)).mono ?_;rintro e w6⟨rfl,h⟩;have QX:=O (u.o.trans ((g.o.trans (h.mono g.o.size)).mono u.o.size));clear h;have k9:decide (F=F)=true:=aaU rfl;go_wp2_with fail;exact⟨⟨k+1,by omega,by go_num,QX⟩,by simp [intOf];omega⟩
   ·obtain⟨hP,hQ,C⟩:=Ar Y #[.int .u8 kd,.string (aM tx),.int .i64 I,.slice U f X,.int .i64 v] #[.int .u8 kd,.string (aM tx),.int .i64 I,.slice S f V,.int .i64 at_];have j:=O hP;have l:=O hQ;have g:=O C;clear hP hQ C
    generalize (((Y.alloc (.cells #[.int .u8 kd,.string (aM tx),.int .i64 I,.slice U f X,.int .i64 v] 50)).alloc (.cells #[.int .u8 kd,.string (aM tx),.int .i64 I,.slice S f V,.int .i64 at_] 50)).drew)=w5 at j l g ⊢
    have p0:=j.o.cell 0;have p1:=j.o.cell 1;have p2:=j.o.cell 2;have p3:=j.o.cell 3;have q0:=l.o.cell 0;have q1:=l.o.cell 1;have q2:=l.o.cell 2;have q3:=l.o.cell 3;clear c0 c1 c2 c3 c4 d0 d1 q d3 d4 t0 u0;go_wp2_with fail;refine (Z7 S U f V X F F _ nu.o.symm nu.o.symm (by omega) (tK.o.below g.o) (N.o.below g.o)).mono ?_;rintro e w6⟨rfl,h⟩;have QX:=O (u.o.trans ((g.o.trans (h.mono g.o.size)).mono u.o.size));clear h;have k9:decide (F=F)=true:=aaU rfl;go_wp2_with fail;exact⟨⟨k+1,by omega,by go_num,QX⟩,by simp [intOf];omega⟩
  ·obtain rfl:k=n:=by omega
   go_wp2_with fail;go_ret;exact⟨by first | rfl | simp,a0.o.trans (u.o.mono a0.o.size)⟩
end Go.Proofs.YthepmkjggfijoaaGreatDoor
namespace Go.Proofs.YthepmkjggfijoaaGreatDoor
open Go.RowKit Mist
def gX (ns:List Nd)(F e:Nat):List Nd:=((ns.drop F).take (e - F)).map (lI (-(F:Int)))
theorem uI {ns:List Nd}{F e:Nat}(a:e≤ns.length):(gX ns F e).length=e - F:=by
 unfold gX;rw [List.length_map,List.length_take,List.length_drop];omega
theorem uq {ns:List Nd}{F e j:Nat}(h1:F≤j)(h2:j < e):(gX ns F e)[j - F]? = (ns[j]?).map (lI (-(F:Int))):=by
 unfold gX;rw [List.getElem?_map,List.getElem?_take,if_pos (by omega),List.getElem?_drop,show F+(j - F)=j by omega]
theorem xJ {ns:List Nd}{F e i:Nat}{y:Nd}(h:(gX ns F e)[i]? = some y):F+i < e∧∃ x,ns[F+i]? = some x∧y=lI (-(F:Int)) x:=by
 unfold gX at h
 rw [List.getElem?_map,List.getElem?_take] at h
 split at h
 ·rename_i b
  rw [List.getElem?_drop] at h
  obtain⟨x,a,rfl⟩:=Option.map_eq_some_iff.1 h;exact⟨by omega,x,a,rfl⟩
 ·cases h
theorem Bb (d:Int)(x:Nd):(lI d x).kids.length=x.kids.length:=List.length_map ..
theorem MU (d:Int)(x:Nd)(i k:Nat):mJ (lI d x) i k=mJ x i k:=by
 unfold mJ;rw [Bb];rfl
theorem A9 (d:Int)(x:Nd):∀ (a:List (Nat × Bool)) (i:Nat),oJ (lI d x) i a=oJ x i a
 | [],_=>rfl
 | q :: r,i=>by
  show (ru (lI d x) i q && oJ (lI d x) (i+1) r)=(ru x i q && oJ x (i+1) r)
  rw [A9 d x r];unfold ru;rw [MU];rfl
theorem RA (d:Int)(x:Nd)(a:List (Nat × Bool)):okB (lI d x) a=okB x a:=by
 have b:jC (lI d x)=jC x:=by unfold jC;rw [Bb];rfl
 unfold okB;rw [A9,b];rfl
theorem pK {ns:List Nd}{F e:Nat}{h:List Int}(b:Fo ns F e h){j:Nat}{x:Nd}(h1:F≤j)(h2:j < e)(g:ns[j]? = some x):∀ c ∈ x.kids,(F:Int)≤c∧c < (j:Int):=by
 obtain⟨n,m,f,i,d⟩:=b.each j h1 h2;obtain rfl:n=x:=aaP (f.symm.trans g);intro c a
 have:=d.ids c a
 omega
theorem A_ {ns:List Nd}{F e:Nat}(b:e≤ns.length){c:Int}(h1:(F:Int)≤c)(h2:c < (e:Int)):dB (gX ns F e) (c+-(F:Int))=dB ns c:=by
 obtain⟨j,rfl⟩:∃ j:Nat,c=(j:Int):=⟨c.toNat,by omega⟩;unfold dB;have a:=uq (ns:=ns) (F:=F) (e:=e) (j:=j) (by omega) (by omega);rw [show ((j:Int)+-(F:Int)).toNat=j - F by omega,aaQ,aaH,aaH,a,aaD (show j < ns.length by omega)];rfl
theorem Ua {ns:List Nd}{F e:Nat}{a b:Nat}{rs:List Int}(h:Fo ns a b rs)(hF:F≤a)(g:b≤e):Fo (gX ns F e) (a - F) (b - F) (rs.map (·+-(F:Int))):=by
 induction h with
 | nil a=>exact .nil _
 | @snoc a m b qs n h1 h2 e1 i j =>
  have k:=h1.le;have l:=h2.le;have d:=i hF (by omega);have f:=j (by omega) (by omega);have c:=uq (ns:=ns) (F:=F) (e:=e) (j:=b) (by omega) (by omega);rw [e1] at c
  have:=Fo.snoc (n:=lI (-(F:Int)) n) d f c
  rw [List.map_append,show b+1 - F=b - F+1 by omega];rw [show ((b - F:Nat):Int)=(b:Int)+-(F:Int) by omega] at this
  exact this
theorem Kj {ns:List Nd}{F e:Nat}{i:List Int}(d:Fo ns F e i):∀ {B:Nat} {k:Int},(F:Int)≤k→k < (e:Int)→oL ns B k→oL (gX ns F e) B (k+-(F:Int))
 | 0,_,_,_,h=>h
 | B+1,k,h1,h2,⟨h0,x,hx,hk⟩=>by
  have f:=uq (ns:=ns) (F:=F) (e:=e) (j:=k.toNat) (by omega) (by omega);rw [hx] at f
  refine⟨by omega,lI (-(F:Int)) x,by rw [show (k+-(F:Int)).toNat=k.toNat - F by omega];exact f,?_⟩
  intro c g;obtain⟨b,a,rfl⟩:=List.mem_map.1 g;have l:=pK d (j:=k.toNat) (by omega) (by omega) hx b a;exact Kj d (by omega) (by omega) (hk b a)
def partT (T:Tr)(F e:Nat)(qs:List Int):Tr:=⟨gX T.nodes F e,qs.map (·+-(F:Int))⟩
theorem dX.part {T:Tr}(h:dX T){F e:Nat}{f:List Int}(g:Fo T.nodes F e f)(u:e≤T.nodes.length)(C:∀ k ∈ f,k ∈ T.items)(M:f.length≤12):dX (partT T F e f):=by
 have n:=uI (ns:=T.nodes) (F:=F) u;have l:=g.ids;have N:=g.le;have B:=h.few
 have A:∀ y ∈ (partT T F e f).nodes,∃ j x,F≤j∧j < e∧T.nodes[j]? = some x∧y=lI (-(F:Int)) x:=fun y hy=>by
  obtain⟨i,L,rfl⟩:=List.getElem_of_mem hy;obtain⟨h1,x,b,G⟩:=xJ (aaD L);exact⟨F+i,x,by omega,h1,b,G⟩
 refine⟨?_,?_,?_,?_,?_,?_,?_,?_⟩
 ·intro i y hy;obtain⟨h1,x,b,rfl⟩:=xJ hy;unfold uP
  have m:(lI (-(F:Int)) x).kids.map (dB (partT T F e f).nodes)=x.kids.map (dB T.nodes):=by
   show (x.kids.map (·+-(F:Int))).map _=_
   rw [List.map_map]
   exact List.map_congr_left fun c d=>by
    have:=pK g (by omega) h1 b c d
    exact A_ u (by omega) (by omega)
  rw [m,RA];exact h.ok _ _ b
 ·intro i y hy c d;obtain⟨h1,x,b,rfl⟩:=xJ hy;obtain⟨E,t,rfl⟩:=List.mem_map.1 d
  have:=pK g (by omega) h1 b E t
  omega
 ·have:=Ua g (aaJ _) (aaJ e)
  show Fo (gX T.nodes F e) 0 (gX T.nodes F e).length _
  rw [n];rw [Nat.sub_self] at this
  exact this
 ·intro a J;obtain⟨c,d,rfl⟩:=List.mem_map.1 J
  have:=l c d
  rw [show dB (partT T F e f).nodes (c+-(F:Int))=dB T.nodes c from A_ u (by omega) (by omega)];exact h.it c (C c d)
 ·intro y hy;obtain⟨j,x,h1,h2,b,rfl⟩:=A y hy;have q:=h.sz x (aaM b);by_cases r:x.kind=40
  ·obtain⟨v,w,m,_⟩:=h.good.choose x (aaM b) r;have P:=pK g h1 h2 b v (by rw [m];simp);have Q:=pK g h1 h2 b w (by rw [m];simp)
   have D:∀ k:Nat,F≤k→k < e→(nd (partT T F e f) ((k:Int)+-(F:Int)).toNat).n=(nd T k).n:=fun k H I=>by
    have K:=uq (ns:=T.nodes) (F:=F) (e:=e) (j:=k) H I;unfold nd;rw [show ((k:Int)+-(F:Int)).toNat=k - F by omega,aaH,aaH]
    show ((gX T.nodes F e)[k - F]?.getD default).n=_
    rw [K,aaD (show k < T.nodes.length by omega)];rfl
   unfold Mist.sized at q ⊢
   rw [if_pos r,m] at q
   rw [if_pos (show (lI (-(F:Int)) x).kind=40 from r)]
   show within ((nd _ ((x.kids.map (·+-(F:Int))).getD 1 0).toNat).n - (nd _ ((x.kids.map (·+-(F:Int))).getD 0 0).toNat).n+1) 1 12=true
   rw [m]
   show within ((nd _ ((w:Int)+-(F:Int)).toNat).n - (nd _ ((v:Int)+-(F:Int)).toNat).n+1) 1 12=true
   rw [D w (by omega) (by omega),D v (by omega) (by omega)];exact q
  ·unfold Mist.sized at q ⊢
   rw [if_neg r] at q
   rw [if_neg (show ¬ (lI (-(F:Int)) x).kind=40 from r),Bb];exact q
 ·intro k m;obtain⟨c,d,rfl⟩:=List.mem_map.1 m
  have:=l c d
  exact Kj g (by omega) (by omega) (h.ht c (C c d))
 ·show (gX T.nodes F e).length≤800
  rw [n];omega
 ·show (f.map _).length≤12
  rw [List.length_map];exact M
def mD (its:List Int)(k:Nat):Nat:=if k=0 then 0 else (its.getD (k - 1) 0).toNat+1
theorem Qm {rs:List Int}{x:Int}{k:Nat}(h:k≤rs.length):mD (rs ++ [x]) k=mD rs k:=by
 unfold mD;split
 ·rfl
 ·rw [aaH,aaH,List.getElem?_append_left (by omega)]
theorem BX (rs:List Int)(b:Nat):mD (rs ++ [(b:Int)]) (rs.length+1)=b+1:=by
 unfold mD;rw [if_neg (by omega),aaH,List.getElem?_append_right (by omega)];simp
theorem yx {a:List Int}{k la:Nat}(h:a[k]? = some (la:Int)):mD a (k+1)=la+1:=by
 unfold mD;rw [if_neg (by omega),aaH,Nat.add_sub_cancel,h];rfl
theorem Qp {ns:List Nd}{a m:Nat}{rs:List Int}(h:Fo ns a m rs)(b:a=0):mD rs rs.length=m:=by
 cases h with
 | nil=>subst b;rfl
 | snoc h k e=>rw [aaO];exact BX _ _
theorem wK {ns:List Nd}{a n:Nat}{c:List Int}(h:Fo ns a n c)(l:a=0):∀ k,k≤c.length→Fo ns 0 (mD c k) (c.take k)∧mD c k≤n∧(k < c.length→∃ la:Nat,c[k]? = some (la:Int)∧Fo ns (mD c k) (la+1) [(la:Int)]∧la+1≤n∧mD c k≤la):=by
 induction h with
 | nil a =>
  intro k d;obtain rfl:k=0:=by simpa using d
  subst l;exact⟨.nil _,aaJ _,fun h=>by simp at h⟩
 | @snoc a m b rs x h1 h2 e i j =>
  subst l;intro k d;rw [aaO,aaT] at d
  have u:=Qp h1 rfl;have f:=h2.le;by_cases h:k≤rs.length
  ·obtain⟨v,A,w⟩:=i rfl k h;rw [Qm h,List.take_append_of_le_length h]
   refine⟨v,by omega,fun _=>?_⟩
   by_cases g:k < rs.length
   ·obtain⟨la,q,r,y,t⟩:=w g;exact⟨la,by rw [List.getElem?_append_left g];exact q,r,by omega,t⟩
   ·obtain rfl:k=rs.length:=by omega
    rw [u];exact⟨b,by simp,Fo.one h2 e,aaJ _,f⟩
  ·obtain rfl:k=rs.length+1:=by omega
   rw [BX,aaN (by simp)];exact⟨.snoc h1 h2 e,aaJ _,fun h=>by simp at h⟩
end Go.Proofs.YthepmkjggfijoaaGreatDoor
