/-
  A part of the proof.
-/
import Derived.Test.YthepmkjggfijoaaGreatDoorSA
import Derived.BigQuiet
import Derived.Test.YthepmkjggfijoaaGreatDoorS31
import Derived.Test.YthepmkjggfijoaaGreatDoorS22
import Derived.Test.YthepmkjggfijoaaGreatDoorS29
import Derived.Test.YthepmkjggfijoaaGreatDoorJ03
import Derived.Test.YthepmkjggfijoaaGreatDoorJ04
import Derived.Test.YthepmkjggfijoaaGreatDoorJ11
import Derived.Test.YthepmkjggfijoaaGreatDoorJ12
set_option linter.all false
set_option maxRecDepth 100000
set_option maxHeartbeats 4000000
namespace Go.Proofs.YthepmkjggfijoaaGreatDoor
open Go.RowKit Mist
theorem strip_default:strip default=(default:Nd):=rfl
theorem kinfo_strip (ns:List Nd)(c:Int):dB (ns.map strip) c=dB ns c:=by
 unfold dB
 have:(ns.map strip).getD c.toNat default=strip (ns.getD c.toNat default):=by
  rw [aaH,aaH,List.getElem?_map]
  cases ns[c.toNat]? with
  | none=>exact strip_default.symm
  | some x=>rfl
 rw [this];rfl
theorem kidsB_strip (x:Nd):∀ (a:List (Nat × Bool)) (i:Nat),oJ (strip x) i a=oJ x i a
 | [],_=>rfl
 | q :: r,i=>by
  show (ru (strip x) i q && oJ (strip x) (i+1) r)=(ru x i q && oJ x (i+1) r)
  rw [kidsB_strip x r];rfl
theorem okB_strip {x:Nd}{a:List (Nat × Bool)}(h:okB x a=true):okB (strip x) a=true:=by
 unfold okB at h ⊢
 rw [kidsB_strip];simp only [aaS] at h ⊢
 obtain⟨⟨⟨⟨⟨⟨h1,h2⟩,h3⟩,h4⟩,h5⟩,h6⟩,h7⟩:=h;exact⟨⟨⟨⟨⟨⟨h1,h2⟩,h3⟩,h4⟩,h5⟩,rfl⟩,h7⟩
theorem allOk_strip {ns:List Nd}(h:jN ns):jN (ns.map strip):=by
 intro i n a;rw [List.getElem?_map] at a
 obtain⟨x,b,rfl⟩:=Option.map_eq_some_iff.1 a
 have:=h i x b
 unfold uP at this ⊢
 rw [show (strip x).kids.map (dB (ns.map strip))=x.kids.map (dB ns) from List.map_congr_left fun c _=>kinfo_strip ns c];exact okB_strip this
theorem wf_strip {ns:List Nd}(h:Wf ns):Wf (ns.map strip):=by
 intro i n a;rw [List.getElem?_map] at a
 obtain⟨x,b,rfl⟩:=Option.map_eq_some_iff.1 a;exact h i x b
theorem fo_strip {ns:List Nd}{a b:Nat}{c:List Int}(h:Fo ns a b c):Fo (ns.map strip) a b c:=by
 induction h with
 | nil a=>exact .nil a
 | @snoc a m b qs0 n _ _ e i j=>exact .snoc (n:=strip n) i j (by rw [List.getElem?_map,e];rfl)
structure GrownOk (wild:Bool) (b:Bs) (T:Tr):Prop where
 read:Mist.read (grownText wild b)=(fO 0 (grown wild b).pc,0,0)
 pf:PF (fO 0 (grown wild b).pc)
 prog:∃ n,prog (fO 0 (grown wild b).pc) ((grownText wild b).length:Int) n 13 0 [] []=some (.ok T.items (fO 0 (grown wild b).pc).length T.nodes)
 items:T.items=(grownTree wild b).items
 bare:T.nodes.map strip=(grownTree wild b).nodes
 fine:dX T
 own:dX (grownTree wild b)
 len:(grownText wild b).length≤2000
theorem grown_is (c:Bool)(b:Bs)(h:grownOk (grownText c b)=true):∃ T,GrownOk c b T:=by
 obtain⟨r,v⟩:=grown_read c b h;obtain⟨q,e,y⟩:=Mist.rX r;obtain⟨ns,n,g,l,m⟩:=grown_parsed c b ((grownText c b).length:Int);obtain⟨h1,h2,h3,h4⟩:=vE (en:=((grownText c b).length:Int)) q n 13 0 [] [] _ _ _ (fun i n h=>by simp at h) (fun i n h=>by simp at h) (.nil _) (fun a h=>by cases h) m;have j:=grown_small c b;have w:(fO 0 (grown c b).pc).length≤800:=by rw [mW];exact v
 have few:ns.length≤800:=by
  have h5:=j.few
  have:ns.length=(grownTree c b).nodes.length:=by rw [← List.length_map (f:=strip),g];rfl
  omega
 have sz:∀ x ∈ ns,acd ns x:=fun x e=>by
  refine acd.strip ?_;rw [g];refine j.sz _ ?_
  show strip x ∈ (grown c b).st.ns
  rw [← g];exact List.mem_map.2 ⟨x,e,rfl⟩
 have A:∀ k ∈ (grown c b).ix,ab' ns 11 k:=fun k u=>by
  refine ab'.strip ?_;rw [g];exact j.ht k u
 have F:dX ⟨ns,(grown c b).ix⟩:=⟨h1,h2,h3,h4,fun x e=>(sz x e).sized,A,few,l⟩;have d:(⟨ns,(grown c b).ix⟩:Tr).nodes.map strip=(grownTree c b).nodes:=g
 refine⟨⟨ns,(grown c b).ix⟩,⟨r,⟨by omega,q.kind,e⟩,⟨n,m⟩,rfl,d,F,?_,y⟩⟩
 refine⟨?_,?_,?_,?_,fun x e=>(j.sz x e).sized,j.ht,?_,l⟩
 ·rw [← d];exact allOk_strip h1
 ·rw [← d];exact wf_strip h2
 ·rw [← d,List.length_map];exact fo_strip h3
 ·intro a t;rw [← d,kinfo_strip];exact h4 a t
 ·rw [← d,List.length_map];exact few
theorem grown_parse {a:Bool}{b:Bs}{T:Tr}(G:GrownOk a b T)(w:World)(g:Env w) :
  Calls Tryz.prog 17 #[.string (aM (grownText a b))] w fun e f=>Below w.heap.size w f∧∃ A B c d xs,e=.returned (.tuple #[.agg #[.slice A T.nodes.length c,.slice B T.items.length d],.int .i64 0,.int .i64 0])∧aA xs=T.nodes∧mq f A B xs T.items:=by
 obtain⟨n,j⟩:=G.prog;have q:=G.len;refine (Mt w G.read G.pf j g (by omega) G.fine.good G.fine.parsed).mono ?_;rintro e f ⟨i,A,B,c,d,xs,rfl,k,l,m,h⟩;exact⟨i,A,B,c,d,xs,rfl,k,h⟩
end Go.Proofs.YthepmkjggfijoaaGreatDoor
namespace Go.Proofs.YthepmkjggfijoaaGreatDoor
end Go.Proofs.YthepmkjggfijoaaGreatDoor
namespace Go.Proofs.YthepmkjggfijoaaGreatDoor
open Go.RowKit Mist
attribute [local go_sem] aj aH aS aB ak
theorem strip_eq {xs ys:List NV}(a:(aA xs).map strip=(aA ys).map strip){k:Nat}{x y:NV}(b:xs[k]? = some x)(hy:ys[k]? = some y):x.1.kind=y.1.kind∧x.1.text=y.1.text∧x.1.n=y.1.n∧x.1.kids=y.1.kids:=by
 have h:=congrArg (fun l=>l[k]?) a;simp only [List.getElem?_map,gP b,gP hy] at h
 have h:strip x.1=strip y.1:=aaP h;exact⟨(by have:=congrArg Nd.kind h;exact this),(by have:=congrArg Nd.text h;exact this),(by have:=congrArg Nd.n h;exact this),(by have:=congrArg Nd.kids h;exact this)⟩
theorem two_blk (w:World)(P Q:Array Value):aC ((w.alloc (.cells P 50)).alloc (.cells Q 50)).drew w.heap.size 50 P∧aC ((w.alloc (.cells P 50)).alloc (.cells Q 50)).drew (w.heap.size+1) 50 Q∧Below w.heap.size w ((w.alloc (.cells P 50)).alloc (.cells Q 50)).drew:=by
 have a:Below ((w.alloc (.cells P 50)).alloc (.cells Q 50)).heap.size _ _:=Below.drew (Below.refl _ ((w.alloc (.cells P 50)).alloc (.cells Q 50)))
 refine⟨((aC.new w 50 P).alloc _).below a (by simp;omega),(dL (W:=w.alloc (.cells P 50)) (T:=50) (cs:=Q) (k:=w.heap.size+1) (by simp)).below a (by simp),Below.drew (ah (ah (Below.refl _ _) (aaJ _)) (by simp))⟩
theorem bare_any (A B P I:Option Addr)(c d c2 q n m:Nat)(xs ys:List NV)(its:List Int)(w:World)(h1:mq w A B xs its)(h2:mq w P I ys its)(he:(aA xs).map strip=(aA ys).map strip)(r:xs.length=n)(E:ys.length=n)(hil:its.length=m)(hn:n≤10000)(hm:m≤10000) :
  Calls Tryz.prog 46 #[.agg #[.slice A n c,.slice B m d],.agg #[.slice P n c2,.slice I m q]] w fun e w'=>e=.returned (.bool true)∧Below w.heap.size w w':=by
 have HE:=O he;clear he;have HXL:=O r;clear r;have HYL:=O E;clear E;have Z:=O hil;clear hil;have D:Below w.heap.size w ((w.alloc (.cells #[.slice A n c,.slice B m d] 26)).alloc (.cells #[.slice P n c2,.slice I m q] 26)):=ah (ah (Below.refl _ _) (aaJ _)) (by simp);have t:=O D;have uD:=O ((aC.new w 26 #[.slice A n c,.slice B m d]).alloc (.cells #[.slice P n c2,.slice I m q] 26));have QJ:=O (dL (W:=w.alloc (.cells #[.slice A n c,.slice B m d] 26)) (T:=26) (cs:=#[.slice P n c2,.slice I m q]) (k:=w.heap.size+1) (by simp));have H1:=O (h1.below D);have H2:=O (h2.below D);clear h1 h2 D;have k0:((n:Int) != (n:Int))=false:=by simp
 go_in
 go_wp2_with fail
 generalize (w.alloc (.cells #[.slice A n c,.slice B m d] 26)).alloc (.cells #[.slice P n c2,.slice I m q] 26)=w0 at t uD QJ H1 H2 ⊢
 refine (Z7 B I m d q its its _ Z.o Z.o (by omega) H1.o.items H2.o.items).mono ?_;rintro e w1⟨rfl,h⟩;have Y:=O (t.o.trans (h.mono t.o.size));have J:=O (uD.o.below h uD.o.lt);have K:=O (QJ.o.below h QJ.o.lt);have H3:=O (H1.o.below h);have H4:=O (H2.o.below h);clear h t uD QJ H1 H2;have k1:decide (its=its)=true:=aaU rfl;have t0:=J.o.cell 0;have u0:=K.o.cell 0;go_wp2_with fail;go_loopw [5] (fun i wr=>∃ k:Nat,k≤n∧i=.int .i64 k∧Hid (Below w1.heap.size w1 wr)) (fun i _=>n - (intOf i).toNat)
 case atStart=>exact⟨0,aaL _,rfl,O (Below.refl _ _)⟩
 case round =>
  obtain⟨V,rfl⟩:∃ V:World,V=wr:=⟨_,rfl⟩;obtain⟨k,hk,rfl,u⟩:=hrel;clear t0 u0;have X:=O (J.o.below u.o J.o.lt);have Bo:=O (K.o.below u.o K.o.lt);have t0:=X.o.cell 0;have u0:=Bo.o.cell 0;by_cases hlt:k < n
  ·obtain⟨x,F⟩:∃ x,xs[k]? = some x:=jD (by rw [HXL.o];exact hlt);obtain⟨y,hy⟩:∃ y,ys[k]? = some y:=jD (by rw [HYL.o];exact hlt);obtain⟨e1,e2,e3,e4⟩:=strip_eq HE.o F hy;obtain⟨b,o,hA,H⟩:=(H3.o.below u.o).nodes (by rw [HXL.o];omega);obtain⟨b2,o2,C,a⟩:=(H4.o.below u.o).nodes (by rw [HYL.o];omega);have c0:=H.c0 k x F;have c1:=H.c1 k x F;have c2:=H.c2 k x F;have c3:=H.c3 k x F;have c4:=H.c4 k x F;have d0:=a.c0 k y hy;have d1:=a.c1 k y hy;have q:=a.c2 k y hy;have d3:=a.c3 k y hy;have d4:=a.c4 k y hy;have l1:=H.lt;have l2:=a.lt;have l3:=X.o.lt;have l4:=Bo.o.lt;obtain⟨Q,S,hxe,r,hxk⟩:=H.kid F;obtain⟨R,U,hye,E,N⟩:=a.kid hy;rw [hxe] at c3
   rw [hye,← e4] at d3
   rw [← e4] at N
   rw [← e1] at d0
   rw [← e2] at d1
   rw [← e3] at q
   rw [hA] at t0
   rw [C] at u0
   have tK:=O hxk;have L:=O N;obtain⟨⟨kd,tx,G,ks,at_⟩,xv⟩:=x;obtain⟨⟨kd2,tx2,nn2,ks2,v⟩,yv⟩:=y;simp only at c0 c1 c2 c3 c4 d0 d1 q d3 d4 r tK L
   have hAl:=O hA;have hBl:=O C;obtain⟨f,M⟩:∃ f,f=ks.length:=⟨_,rfl⟩;rw [← M] at c3 d3 r
   have nu:=O M;clear F hy e1 e2 e3 e4 hA C H a hxe hye E hxk N M;have y0:(0:Int)≤(k:Int):=by omega
   have y1:(k:Int) < (n:Int):=by omega
   go_wp2_with fail;go_region
   ·obtain⟨hP,hQ,C⟩:=two_blk V #[.int .u8 kd,.string (aM tx),.int .i64 G,.slice Q f S,.int .i64 at_] #[.int .u8 kd,.string (aM tx),.int .i64 G,.slice R f U,.int .i64 v];have j:=O hP;have l:=O hQ;have g:=O C;clear hP hQ C
    generalize (((V.alloc (.cells #[.int .u8 kd,.string (aM tx),.int .i64 G,.slice Q f S,.int .i64 at_] 50)).alloc (.cells #[.int .u8 kd,.string (aM tx),.int .i64 G,.slice R f U,.int .i64 v] 50)).drew)=w5 at j l g ⊢
    have p0:=j.o.cell 0;have p1:=j.o.cell 1;have p2:=j.o.cell 2;have p3:=j.o.cell 3;have q0:=l.o.cell 0;have q1:=l.o.cell 1;have q2:=l.o.cell 2;have q3:=l.o.cell 3;clear c0 c1 c2 c3 c4 d0 d1 q d3 d4 t0 u0;go_wp2_with fail;refine (Z7 Q R f S U ks ks _ nu.o.symm nu.o.symm (by omega) (tK.o.below g.o) (L.o.below g.o)).mono ?_;rintro e w6⟨rfl,h⟩;have QX:=O (u.o.trans ((g.o.trans (h.mono g.o.size)).mono u.o.size));clear h;have k9:decide (ks=ks)=true:=aaU rfl;go_wp2_with fail;exact⟨⟨k+1,by omega,by go_num,QX⟩,by simp [intOf];omega⟩
   ·obtain⟨hP,hQ,C⟩:=two_blk V #[.int .u8 kd,.string (aM tx),.int .i64 G,.slice R f U,.int .i64 v] #[.int .u8 kd,.string (aM tx),.int .i64 G,.slice Q f S,.int .i64 at_];have j:=O hP;have l:=O hQ;have g:=O C;clear hP hQ C
    generalize (((V.alloc (.cells #[.int .u8 kd,.string (aM tx),.int .i64 G,.slice R f U,.int .i64 v] 50)).alloc (.cells #[.int .u8 kd,.string (aM tx),.int .i64 G,.slice Q f S,.int .i64 at_] 50)).drew)=w5 at j l g ⊢
    have p0:=j.o.cell 0;have p1:=j.o.cell 1;have p2:=j.o.cell 2;have p3:=j.o.cell 3;have q0:=l.o.cell 0;have q1:=l.o.cell 1;have q2:=l.o.cell 2;have q3:=l.o.cell 3;clear c0 c1 c2 c3 c4 d0 d1 q d3 d4 t0 u0;go_wp2_with fail;refine (Z7 Q R f S U ks ks _ nu.o.symm nu.o.symm (by omega) (tK.o.below g.o) (L.o.below g.o)).mono ?_;rintro e w6⟨rfl,h⟩;have QX:=O (u.o.trans ((g.o.trans (h.mono g.o.size)).mono u.o.size));clear h;have k9:decide (ks=ks)=true:=aaU rfl;go_wp2_with fail;exact⟨⟨k+1,by omega,by go_num,QX⟩,by simp [intOf];omega⟩
  ·obtain rfl:k=n:=by omega
   go_wp2_with fail;go_ret;exact⟨by first | rfl | simp,Y.o.trans (u.o.mono Y.o.size)⟩
end Go.Proofs.YthepmkjggfijoaaGreatDoor
