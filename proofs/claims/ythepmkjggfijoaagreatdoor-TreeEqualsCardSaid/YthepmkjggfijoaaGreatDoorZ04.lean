/-
  A part of the proof.
-/
import Derived.Test.YthepmkjggfijoaaGreatDoorSA
import Derived.Deep.QuietTactic
import Derived.BigRegion
import Derived.Deep.CutRange
import Derived.Test.YthepmkjggfijoaaGreatDoorS32
import Derived.Test.YthepmkjggfijoaaGreatDoorS22
import Derived.Test.YthepmkjggfijoaaGreatDoorS21
import Derived.Test.YthepmkjggfijoaaGreatDoorZ01
import Derived.Test.YthepmkjggfijoaaGreatDoorZ03
set_option linter.all false
set_option maxRecDepth 100000
set_option maxHeartbeats 4000000
namespace Go.Proofs.YthepmkjggfijoaaGreatDoor
open Go.RowKit Mist
attribute [local go_sem] aj aH aS aB ak
theorem MX {T:Tr}{xs:List NV}(b:T.nodes=aA xs)(u:Wf T.nodes)(o:∀ i,i < T.nodes.length→je T i=true){i:Nat}{x:NV}(m:xs[i]? = some x):A8 xs x.1:=by
 intro r;have v:i < T.nodes.length:=by rw [b,aD];exact (aaE.1 m).1
 have f:nd T i=x.1:=kH (by rw [b];exact gP m);have h:=o i v;rw [wL,f] at h
 simp only [aaS,aaR,List.mem_range] at h
 obtain⟨⟨_,g⟩,w⟩:=h;unfold Fv at g
 simp only [aaS] at g
 have d:=g.1.1.2;rw [vB] at d
 have B:x.1.kids.length=2:=by
  unfold manyN at d
  simpa [r] using d
 have one:∀ j,j < 2→∃ (p:Nat) (y:NV),x.1.kids[j]? = some (p:Int)∧xs[p]? = some y∧(-100000≤y.1.n∧y.1.n≤100000):=by
  intro j A;obtain⟨q,l⟩:∃ q,x.1.kids[j]? = some q:=⟨_,aaD (by omega)⟩;have C:=u i x.1 (by rw [b];exact gP m) q (aaM l);obtain⟨p,rfl⟩:∃ p:Nat,q=(p:Int):=⟨q.toNat,by omega⟩;have k:p < T.nodes.length:=by omega
  obtain⟨y,hy⟩:∃ y,xs[p]? = some y:=jD (by rw [b,aD] at k;exact k);have t:nd T p=y.1:=kH (by rw [b];exact gP hy);have a:=w j (by omega);unfold Hw at a
  rw [aaH,l] at a
  simp only [Option.getD_some,aaQ,t,aaS] at a
  have h1:y.1.kind=1:=by
   have:=a.1
   unfold mJ at this
   simpa [r] using this
  have n:=o p k;rw [wL,t] at n
  simp only [aaS] at n
  have e:=n.1.2;unfold Fv at e
  simp only [aaS] at e
  have c:=e.1.2;unfold gu at c
  simp [h1,within] at c
  exact⟨p,y,l,hy,by omega⟩
 obtain⟨p,y,h1,h2,h3⟩:=one 0 (by omega);obtain⟨q,z,h4,h5,h6⟩:=one 1 (by omega);exact⟨p,q,y,z,h1,h4,h2,h5,h3,h6⟩
theorem Ob {T:Tr}(h:kE T=true):(∀ i,i < T.nodes.length→je T i=true)∧Wf T.nodes:=by
 obtain⟨a,h2⟩:=(rR T).1 h
 refine⟨h2,?_⟩
 obtain⟨b,_,h3⟩:=qV.sizes a.fo;exact kX h3
theorem pO (A B:Option Addr)(c d:Nat)(xs:List NV)(its:List Int)(w:World)(Z:mq w A B xs its)(hn:xs.length≤10000)(hm:its.length≤10000)(hl:∀ x ∈ xs,x.1.text.length≤100000000) :
  Calls Tryz.prog 23 #[.agg #[.slice A xs.length c,.slice B its.length d]] w fun e w'=>e=.returned (.int .i64 (kV ⟨aA xs,its⟩))∧Below w.heap.size w w':=by
 have K:=O fun W (M:Below w.heap.size w W)=>Ww A B c d xs its W (Z.below M) hn hm hl
 have JU:=O fun W (M:Below w.heap.size w W) hW=>C8 A B c its.length d xs its W (Z.below M) hW (by omega)
 have I:=O fun W (M:Below w.heap.size w W) i x Q hC=>IQ A B c its.length d i xs its x W (Z.below M) Q hn hC
 obtain⟨T,R⟩:∃ T:Tr,T=⟨aA xs,its⟩:=⟨_,rfl⟩;rw [← R] at K I ⊢
 have S:=O (show T.nodes=aA xs by rw [R]);have U_:=O (show T.nodes.length=xs.length by rw [R];exact aD xs);have J:=O (show Mist.large T=(decide (800 < xs.length) || decide (60 < its.length)) by rw [R];unfold Mist.large;simp only [aD]);clear R hl Z;obtain⟨n,F⟩:∃ n,n=xs.length:=⟨_,rfl⟩;obtain⟨m,N⟩:∃ m,m=its.length:=⟨_,rfl⟩;rw [← F] at K JU I U_ J hn ⊢
 rw [← N] at K JU I J hm ⊢
 have HN:=O F;clear F;clear N;have r:=O (aC.new w 26 #[.slice A n c,.slice B m d]);have l:=O (ah (Below.refl w.heap.size w) (aaJ _) (o:=.cells #[.slice A n c,.slice B m d] 26));go_in
 by_cases h1:800 < n
 ·have Y:decide (800 < n)=true:=aaU h1;have a1:decide ((800:Int) < (n:Int))=true:=aaU (by omega);have f:=O (show kV T=5 by unfold kV;rw [if_pos (by rw [J.o,Y];rfl)]);go_wp2_with fail;go_ret;exact⟨by rw [f.o];rfl,l.o⟩
 have Y:decide (800 < n)=false:=aaV h1;have a1:decide ((800:Int) < (n:Int))=false:=aaV (by omega);by_cases h2:60 < m
 ·have d2:decide (60 < m)=true:=aaU h2;have kY:decide ((60:Int) < (m:Int))=true:=aaU (by omega);have f:=O (show kV T=5 by unfold kV;rw [if_pos (by rw [J.o,Y,d2];rfl)]);go_wp2_with fail;go_ret;exact⟨by rw [f.o];rfl,l.o⟩
 have d2:decide (60 < m)=false:=aaV h2;have kY:decide ((60:Int) < (m:Int))=false:=aaV (by omega);have qb:=O (show ¬ Mist.large T=true by rw [J.o,Y,d2];simp)
 cases C:kE T
 ·have f:=O (show kV T=4 by unfold kV;rw [if_neg qb.o,if_pos C]);have Ll:=O C;clear C;go_wp2_with fail;refine (K.o _ l.o).mono ?_;rintro e w1⟨rfl,g⟩;rw [Ll.o];go_wp2_with fail;go_ret;exact⟨by rw [f.o];rfl,l.o.trans (g.mono l.o.size)⟩
 obtain⟨a,P⟩:=Ob C;have mV:=O a;have nA:=O P;have Ll:=O C;have sP:=O (show ¬ kE T=false by rw [C];simp);clear C a P;have a0:=O (show jB (aA xs)=om T by unfold om;rw [S.o]);go_wp2_with fail;refine (K.o _ l.o).mono ?_;rintro e w1⟨rfl,g⟩;rw [Ll.o];have b:=O (r.o.below g r.o.lt);have uE:=O (l.o.trans (g.mono l.o.size));clear g r l;have t0:=b.o.cell 0;have t1:=b.o.cell 1;go_wp2_with fail;refine (JU.o _ uE.o (by rw [← S.o];exact nA.o)).mono ?_;rintro e w2⟨rfl,v⟩;rw [a0.o];have H:=O (b.o.below v b.o.lt);have u:=O (uE.o.trans (v.mono uE.o.size));clear v b uE t0 t1;obtain⟨D,L⟩:∃ D,D=om T:=⟨_,rfl⟩;rw [← L];by_cases G:30 < D
 ·have d3:decide (30 < D)=true:=aaU G;have f:=O (show kV T=5 by unfold kV;rw [if_neg qb.o,if_neg sP.o,if_pos (by rw [← L];exact G)]);clear L G;go_wp2_with fail;go_ret;exact⟨by rw [f.o];rfl,u.o⟩
 have d3:decide (30 < D)=false:=aaV G;have uq:=O (show kV T=if T.nodes.all (gD T)=false then 3 else 0 by unfold kV;rw [if_neg qb.o,if_neg sP.o,if_neg (by rw [← L];exact G)]);clear L G;go_wp2_with fail;go_loopw [3] (fun i wr=>∃ k:Nat,k≤n∧i=.int .i64 k∧Hid (∀ (j:Nat) y,j < k→xs[j]? = some y→gD T y.1=true)∧Hid (aC wr w.heap.size 26 #[.slice A n c,.slice B m d])∧Hid (Below w.heap.size w wr)) (fun i _=>n - (intOf i).toNat)
 case atStart=>exact⟨0,aaL _,rfl,O (fun j y hj=>by omega),H,u⟩
 case round =>
  clear H u;obtain⟨k,hk,rfl,HK,U,t⟩:=hrel;have t0:=U.o.cell 0;have t1:=U.o.cell 1;by_cases E:k < n
  ·have i3:decide (k < n)=true:=aaU E;obtain⟨x,Q⟩:∃ x,xs[k]? = some x:=jD (by rw [← HN.o];exact E);have HC:=O (MX S.o nA.o mV.o Q);have V:=O Q;clear Q
   cases h:gD T x.1
   ·have f:=O (show kV T=3 by
     rw [uq.o,if_pos];rw [List.all_eq_false];exact⟨x.1,by rw [S.o];exact aaM (gP V.o),by rw [h];simp⟩)
    have X:=O h;clear h;go_wp2_with fail;refine (I.o _ t.o k x V.o HC.o).mono ?_;rintro e w3⟨rfl,q⟩;rw [X.o];go_wp2_with fail;go_ret;exact⟨by rw [f.o];rfl,t.o.trans (q.mono t.o.size)⟩
   ·have X:=O h;clear h;go_wp2_with fail;refine (I.o _ t.o k x V.o HC.o).mono ?_;rintro e w3⟨rfl,q⟩;rw [X.o];go_wp2_with fail
    exact⟨⟨k+1,by omega,by go_num,O (fun j y hj hy=>by
     by_cases a2:j=k
     ·subst a2;obtain rfl:=aaP (hy.symm.trans V.o);exact X.o
     ·exact HK.o j y (by omega) hy),O (U.o.below q U.o.lt),O (t.o.trans (q.mono t.o.size))⟩,by simp [intOf];omega⟩
  ·have i3:decide (k < n)=false:=aaV E
   have f:=O (show kV T=0 by
    rw [uq.o,if_neg];rw [Bool.not_eq_false,aaR];intro y hy;rw [S.o] at hy
    obtain⟨z,hz,rfl⟩:=List.mem_map.1 hy;obtain⟨j,hj,a3⟩:=List.mem_iff_getElem.1 hz;exact HK.o j z (by rw [← HN.o] at hj;omega) (by rw [← a3];exact aaD hj))
   go_wp2_with fail;go_ret;exact⟨by rw [f.o];rfl,t.o⟩
structure RowsIn (g:Nat) (w:World) (nv iv:Value) (xs:List NV) (its:List Int):Prop where
 own:w.ownsRow g 50 5 nv xs.length (iO xs)
 kids:∀ x ∈ xs,w.ownsRow g 3 1 x.2 x.1.kids.length (intCells x.1.kids)
 row:w.ownsRow g 3 1 iv its.length (intCells its)
 far:∀ x ∈ xs,x.2.ownBlock=none∨x.2.ownBlock ≠ iv.ownBlock
theorem RowsIn.below {g:Nat}{w b:World}{nv iv:Value}{xs:List NV}{its:List Int}(h:RowsIn g w nv iv xs its)(a:Below w.heap.size w b):RowsIn g b nv iv xs its :=
 ⟨own_below h.own a,fun x c=>own_below (h.kids x c) a,own_below h.row a,h.far⟩
theorem RowsIn.add {g:Nat}{w w1:World}{tb:Nat}{nv eO iv:Value}{xs:List NV}{its:List Int}{x:NV}(h:RowsIn g w nv iv xs its)(i:aC w tb 26 #[nv,iv])(d:w.grownBy w1 nv.ownBlock)(a:w1.ownsRow g 50 5 eO (xs.length+1) (iO xs ++ fC x))(b:w.ownsRow g 3 1 x.2 x.1.kids.length (intCells x.1.kids))(j:x.2.ownBlock=none∨x.2.ownBlock ≠ iv.ownBlock) :
  RowsIn g (w1.setCell ⟨tb,0,none⟩ eO) eO iv (xs ++ [x]) its∧aC (w1.setCell ⟨tb,0,none⟩ eO) tb 26 #[eO,iv]:=by
 have c:=i.grown d (fun e=>aT h.own i (by decide) e.symm)
 have keep:∀ {v:Value} {n:Nat} {f:List Value},w.ownsRow g 3 1 v n f→(w1.setCell ⟨tb,0,none⟩ eO).ownsRow g 3 1 v n f:=fun b =>
  ownsRow_setCell_other (b.kept d (iE b h.own (by decide))) (aT (b.kept d (iE b h.own (by decide))) c (by decide)) _
 refine⟨⟨?_,fun y hy=>?_,keep h.row,fun y hy=>?_⟩,?_⟩
 ·rw [aaO,rJ];have e:iO [x]=fC x:=by simp [iO]
  rw [e];exact ownsRow_setCell_other a (aT a c (by decide)) _
 ·rcases List.mem_append.1 hy with hy | hy
  ·exact keep (h.kids y hy)
  ·rw [List.mem_singleton.1 hy];exact keep b
 ·rcases List.mem_append.1 hy with hy | hy
  ·exact h.far y hy
  ·rw [List.mem_singleton.1 hy];exact j
 ·have:=c.d_ 0 eO;simpa using this
theorem RowsIn.tY {g:Nat}{w:World}{nv iv:Value}{xs:List NV}{its:List Int}{c i:Nat}{cs:Array Value}{u:Value}(h:RowsIn g w nv iv xs its)(a:aC w c 26 cs):RowsIn g (w.setCell ⟨c,i,none⟩ u) nv iv xs its :=
 ⟨ownsRow_setCell_other h.own (aT h.own a (by decide)) u,fun x b=>ownsRow_setCell_other (h.kids x b) (aT (h.kids x b) a (by decide)) u,ownsRow_setCell_other h.row (aT h.row a (by decide)) u,h.far⟩
theorem Uh {w i:World}{v iv:Value}{b a e c s g n f:Nat}{xs ys:List Value}(h:i.ownsRow b e s v n xs)(j:w.heap.size≤b)(hi:w.ownsRow a c g iv f ys):v.ownBlock=none∨v.ownBlock ≠ iv.ownBlock:=by
 rcases h9:v.ownBlock with _ | q
 ·exact .inl rfl
 ·right
  intro d;have h1:=(h.lt q h9).1;have h2:=(hi.lt q d.symm).2;omega
theorem BS (A B:Option Addr)(c d:Nat)(xs:List NV)(its:List Int)(w:World)(hT:mq w A B xs its)(hn:xs.length≤10000)(hm:its.length≤10000)(hr:∀ x ∈ xs,∀ k ∈ x.1.kids,jq≤k∧k≤gq) :
  Calls Tryz.prog 21 #[.agg #[.slice A xs.length c,.slice B its.length d]] w fun e w'=>Below w.heap.size w w'∧∃ nv iv ext,e=.returned (.agg #[nv,iv])∧RowsIn w.heap.size w' nv iv ext its∧aA ext=aA xs:=by
 obtain⟨n,a0⟩:∃ n,n=xs.length:=⟨_,rfl⟩;obtain⟨m,P⟩:∃ m,m=its.length:=⟨_,rfl⟩;rw [← a0] at hn ⊢
 rw [← P] at hm ⊢
 have qC:=O (R3 hT.items);rw [← P] at qC
 have pF:=O a0;clear a0;have U1:=O P;clear P;have HT:=O hT;clear hT;have HR:=O hr;clear hr;obtain⟨i0,b3,c5,c6,c7⟩:=info_parts rW;obtain⟨j0,b4,b7,b8,b9⟩:=info_parts gN;go_in
 have h0:=O (((Below.refl w.heap.size w).alloc (aaJ _) (.cells #[.slice A n c,.slice B m d] 26)).alloc (by simp) (.cells #[.slice none 0 0,.slice none 0 0] 26));have h1:=O (h0.o.alloc (by simp;omega) (.cells #[] 3));have cO:=O (World.ownsRow_made (base:=w.heap.size) (e:=3) (size:=1) ((w.alloc (.cells #[.slice A n c,.slice B m d] 26)).alloc (.cells #[.slice none 0 0,.slice none 0 0] 26)) #[] 0 (by simp;omega) (by simp [maxLen]) rfl);have b6:m * 8≤140737488355328:=by omega
 have jS:=O (qC.o.below h1.o);go_wp2_with (at_builtin;go_loud (refine Dq _ rfl (.tmp 5) (.tmp 7) 24 rfl w.heap.size 3 j0 _ 1 8 Tryz.underlying24 b4 b7 b8 b9 rfl (by decide) (.slice (some ⟨w.heap.size+1+1,0,none⟩) 0 0) 0 [] rfl (by simpa using cO.o) w.heap.size B m d (intCells its) rfl jS.o (by intro u hu;obtain⟨z,_,rfl⟩:=List.mem_map.1 hu;rfl) (by simp only [maxLen];omega) (by omega) (by simp;omega) ?_);intro v2 w2 a E _;rw [Nat.zero_add] at a;obtain⟨r,t,rfl⟩:=dh a)
 have a9:=O E;have a3:=O (show w2.ownsRow w.heap.size 3 1 (.slice r m t) m (intCells its) from by simpa using a);have U:=O (show Below w.heap.size w w2 from h1.o.grown E (by simp;omega) (fun k hk=>by have:=(cO.o.lt k (by simpa using hk)).1;omega));have vF:=(aC.new w 26 #[.slice A n c,.slice B m d]).alloc (.cells #[.slice none 0 0,.slice none 0 0] 26);have a2:=O ((vF.alloc (.cells #[] 3)).grown E (fun e=>by first|(simp [Value.ownBlock] at e;done)|(simp [Value.ownBlock] at e;omega)));have vG:=dL (W:=w.alloc (.cells #[.slice A n c,.slice B m d] 26)) (T:=26) (cs:=#[.slice none 0 0,.slice none 0 0]) (k:=w.heap.size+1) (by simp);have X:=O ((vG.alloc (.cells #[] 3)).grown E (fun e=>by first|(simp [Value.ownBlock] at e;done)|(simp [Value.ownBlock] at e;omega)));have H:=U.o.size;have rQ:w.heap.size+1 < w2.heap.size:=X.o.lt;clear a E a9 vF vG cO h0 h1 qC jS b6
 have qm:=O (show RowsIn w.heap.size (w2.alloc (.cells #[.slice none 0 0,.slice r m t] 26)) (.slice none 0 0) (.slice r m t) [] its from
  ⟨World.ownsRow_nil _ _ _ _,(fun x l=>by cases l),by rw [← U1.o];exact a3.o.alloc _,(fun x l=>by cases l)⟩)
 have L:=O (aC.new w2 26 #[.slice none 0 0,.slice r m t]);have S:=O (a2.o.alloc (.cells #[.slice none 0 0,.slice r m t] 26));have V:=O (X.o.alloc (.cells #[.slice none 0 0,.slice r m t] 26));have eH:=O (ah U.o H (o:=.cells #[.slice none 0 0,.slice r m t] 26));clear a2 X U a3
 generalize w2.alloc (.cells #[.slice none 0 0,.slice r m t] 26)=w4 at qm L S V eH ⊢
 generalize w2.heap.size=tb at L H rQ ⊢
 go_loopw [4] (fun i wr=>∃ (k:Nat) (nv:Value) (ext:List NV),k≤n∧i=.int .i64 k∧ext.length=k∧Hid (aA ext=(aA xs).take k)∧Hid (RowsIn w.heap.size wr nv (.slice r m t) ext its)∧Hid (aC wr tb 26 #[nv,.slice r m t])∧Hid (aC wr w.heap.size 26 #[.slice A n c,.slice B m d])∧Hid (aC wr (w.heap.size+1) 26 #[.slice none 0 0,.slice none 0 0])∧Hid (Below w.heap.size w wr)) (fun i _=>n - (intOf i).toNat)
 case atStart=>exact⟨0,_,[],aaL _,rfl,rfl,O rfl,qm,L,S,V,eH⟩
 case round =>
  clear qm L S V eH;obtain⟨wo,rfl⟩:∃ wo:World,wo=wr:=⟨_,rfl⟩;obtain⟨k,nv,ext,hk,rfl,j,Li,h,Q,HB,M,K⟩:=hrel;have t0:=HB.o.cell 0;have t1:=HB.o.cell 1;by_cases Y:k < n
  ·have i3:decide (k < n)=true:=aaU Y;obtain⟨An,cn,rfl⟩:=dh h.o.own;rw [j] at Q
   have TD:=O j;have u0:=Q.o.cell 0;have u1:=Q.o.cell 1;have uf:=Q.o.frozen 0;obtain⟨b,o,rfl,y⟩:=HT.o.nodes (by rw [← pF.o];omega);obtain⟨x,l⟩:∃ x,xs[k]? = some x:=jD (by rw [← pF.o];exact Y);have c0:=(K.o.cell (p:=⟨b,o+k * 5,none⟩) y.lt).trans (y.c0 k x l);have c1:=(K.o.cell (p:=⟨b,o+k * 5+1,none⟩) y.lt).trans (y.c1 k x l);have c2:=(K.o.cell (p:=⟨b,o+k * 5+2,none⟩) y.lt).trans (y.c2 k x l);have c3:=(K.o.cell (p:=⟨b,o+k * 5+3,none⟩) y.lt).trans (y.c3 k x l);have c4:=(K.o.cell (p:=⟨b,o+k * 5+4,none⟩) y.lt).trans (y.c4 k x l);obtain⟨Ka,ca,a7,a1,a8⟩:=y.kid l;rw [a7] at c3
   have tK:=O (a8.below K.o);have kG:=O (HR.o x (aaM l));have Rh:=O (gP l);clear y l a7 a8 j;obtain⟨⟨kd,tx,J,I,at_⟩,xv⟩:=x;simp only at c0 c1 c2 c3 c4 a1 tK kG Rh
   obtain⟨g,Z⟩:∃ g,g=I.length:=⟨_,rfl⟩;rw [← Z] at c3 a1
   have nu:=O Z;clear Z;have z0:(0:Int)≤(k:Int):=by omega
   have z1:(k:Int) < (n:Int):=by omega
   have qJ:=O (show IntsIn wo.drew Ka I from tK.o.below (Below.drew (Below.refl _ _)));have a6:=K.o.size;have c9:=Q.o.lt;have xS:w.heap.size≤tb:=H;go_wp2_with fail
   go_region_law ((first
    | (guard_target =~ ((if Region.wanted _ _=true then _ else _:Prop));refine step_append_lies _ (by rfl) _ _ _ (by rfl) w.heap.size 50 i0 _ 5 64 Tryz.underlying23 b3 c5 c6 c7 rfl (by omega) _ k (iO ext) (by rfl) (f.o.alloc _) ⟨w5.heap.size,0,none⟩ 1 1 (fC (⟨kd,tx,J,I,at_⟩,.slice C g D)) (by rfl) (by rfl) (iP _ _ _) (by intro u hu;simp [fC] at hu;rcases hu with rfl | rfl | rfl | rfl | rfl <;> rfl) (by omega) (by simp only [maxLen];omega) (by omega) (by simp;omega) (w5.heap.size+1) (by simp) ?_;intro gg N w6 G vN xC z8;have kk:=(zO.o.alloc (.cells #[.int .u8 kd,.string (aM tx),.int .i64 J,.slice C g D,.int .i64 at_] 50)).grown vN (fun e=>aT f.o zO.o (by decide) e.symm);have b1:=kk.cell 0;have b2:=kk.frozen 0;clear kk)
    | (go_simp;go_at_call 60;go_loud (refine (Kw kd tx J at_ 0 Ka ca g I _ nu.o qJ.o a1 (fun q hq=>by have h9:=kG.o q hq;unfold jq gq at h9;omega)).mono ?_;rintro e w5⟨a5,kv,rfl,F⟩;rw [show I.map (·+(0:Int))=I by simp] at F;obtain⟨C,D,rfl⟩:=dh F;have R:=O ((Below.drew (Below.refl wo.heap.size wo)).trans (a5.mono (aaJ _)));have AU:=O (h.o.below R.o);have zO:=O (Q.o.below R.o Q.o.lt);have pU:=O (sS F (show w.heap.size≤_ by first|(simp;done)|(simp;omega)));have oO:=O (Uh F (show wo.heap.size≤_ by first|(simp;done)|(simp;omega)) h.o.row);have f:=O (show w5.ownsRow w.heap.size 50 5 (.slice An k cn) k (iO ext) from by have h9:=AU.o.own;rw [TD.o] at h9;exact h9);have u5:=zO.o.cell 0;have xU:=zO.o.lt;have f5:=zO.o.frozen 0;have c8:=R.o.size;clear a5 F))))
   all_goals
    have jR:=AU.o.below (ah (Below.refl w5.heap.size w5) (aaJ _) (o:=.cells #[.int .u8 kd,.string (aM tx),.int .i64 J,.slice C g D,.int .i64 at_] 50));have Lx:=zO.o.alloc (.cells #[.int .u8 kd,.string (aM tx),.int .i64 J,.slice C g D,.int .i64 at_] 50);obtain⟨bW,a4⟩:=RowsIn.add (x:=(⟨kd,tx,J,I,at_⟩,.slice C g D)) (eO:=.slice (some ⟨gg,0,none⟩) (k+1) N) jR (by rw [TD.o];exact Lx) (by rw [TD.o];exact vN) (by rw [TD.o];exact G) (by show World.ownsRow _ _ _ 1 (.slice C g D) I.length (intCells I);rw [← nu.o];exact pU.o.alloc _) oO.o;have cu:=HB.o.below R.o HB.o.lt;have fK:=M.o.below R.o M.o.lt;have iQ:=O (((cu.alloc (.cells #[.int .u8 kd,.string (aM tx),.int .i64 J,.slice C g D,.int .i64 at_] 50)).grown vN (fun e=>aT f.o cu (by decide) e.symm)).far (p:=⟨tb,0,none⟩) (by show w.heap.size ≠ tb;omega) (.slice (some ⟨gg,0,none⟩) (k+1) N));have kM:=O (((fK.alloc (.cells #[.int .u8 kd,.string (aM tx),.int .i64 J,.slice C g D,.int .i64 at_] 50)).grown vN (fun e=>aT f.o fK (by decide) e.symm)).far (p:=⟨tb,0,none⟩) (by show w.heap.size+1 ≠ tb;omega) (.slice (some ⟨gg,0,none⟩) (k+1) N));have b5:=(K.o.trans (R.o.mono a6)).size;have Nt:=O (dx (b:=tb) (i:=0) (u:=.slice (some ⟨gg,0,none⟩) (k+1) N) ((ah (K.o.trans (R.o.mono a6)) b5 (o:=.cells #[.int .u8 kd,.string (aM tx),.int .i64 J,.slice C g D,.int .i64 at_] 50)).grown vN (by simp;omega) (fun q hq=>by have:=(f.o.lt q hq).1;omega)) xS)
    have Lj:=O (show aA (ext ++ [(⟨kd,tx,J,I,at_⟩,.slice C g D)])=(aA xs).take (k+1) by
     rw [nY,Li.o,List.take_add_one,Rh.o];rfl)
    have YE:=O bW;have YH:=O a4;clear bW a4 jR Lx cu fK vN G xC b1 b2 u5 f5;go_wp2_with fail;exact⟨⟨k+1,_,ext ++ [(⟨kd,tx,J,I,at_⟩,.slice C g D)],by omega,by go_num,by rw [aaO,TD.o];rfl,Lj,YE,YH,iQ,kM,Nt⟩,by simp [intOf];omega⟩
  ·have i3:decide (k < n)=false:=aaV Y;have b0:=O (show aA ext=aA xs by rw [Li.o,aaN (by rw [aD,← pF.o];omega)]);have u0:=Q.o.cell 0;have u1:=Q.o.cell 1;obtain⟨An,cn,rfl⟩:=dh h.o.own;rw [j] at u0 h
   have v0:=M.o.cell 0;have v1:=M.o.cell 1;have g0:=M.o.frozen 0;have g1:=M.o.frozen 1;have TD:=O j;clear j;go_wp2_with fail;have Ez:=(M.o.d_ 0 (.slice An k cn)).d_ 1 (.slice r m t);have r0:=Ez.cell 0;have r1:=Ez.cell 1;refine bodyPost_ret (v:=.agg #[.slice An k cn,.slice r m t]) (by simp [results,Tryz.f21,go_sem,r0,r1]) rfl ?_;exact⟨dx (dx K.o (by omega)) (by omega),_,_,ext,rfl,(h.o.tY M.o).tY (M.o.d_ 0 _),b0.o⟩
def eU (x:Nd):Nd:=⟨x.kind,x.text,x.n,x.kids,0⟩
theorem FP {c:Type}{l r:List c}{k:Nat}{a b:c}(h1:l[k]? = some a)(h2:r[k]? = some b)(h:a ≠ b):l ≠ r:=by
 rintro rfl;exact h (aaP (h1.symm.trans h2))
theorem UJ {c:Type}{l r:List c}{k:Nat}{a b:c}(h1:l[k]? = some a)(h2:r[k]? = some b)(h:a=b)(d:l.take k=r.take k):l.take (k+1)=r.take (k+1):=by
 rw [List.take_add_one,List.take_add_one,h1,h2,h,d]
theorem KV {b:Type}{l r:List b}{k:Nat}(h1:l.length≤k)(h2:r.length≤k)(a:l.take k=r.take k):l=r:=by
 rwa [aaN h1,aaN h2] at a
theorem JZ (A B A' B':Option Addr)(c d V X:Nat)(xs ys:List NV)(its iB:List Int)(w:World)(hT:mq w A B xs its)(hU:mq w A' B' ys iB)(L:xs.length≤100000)(hy:ys.length≤100000)(hi:its.length≤100000)(hj:iB.length≤100000) :
  Calls Tryz.prog 59 #[.agg #[.slice A xs.length c,.slice B its.length d],.agg #[.slice A' ys.length V,.slice B' iB.length X]] w fun e w'=>Below w.heap.size w w'∧∃ r:Bool,e=.returned (.bool r)∧(r=true↔(aA xs).map eU=(aA ys).map eU∧its=iB):=by
 obtain⟨n,a4⟩:∃ n,n=xs.length:=⟨_,rfl⟩;obtain⟨n',D_⟩:∃ n,n=ys.length:=⟨_,rfl⟩;obtain⟨m,a2⟩:∃ m,m=its.length:=⟨_,rfl⟩;obtain⟨m',I⟩:∃ m,m=iB.length:=⟨_,rfl⟩;rw [← a4] at L ⊢
 rw [← D_] at hy ⊢
 rw [← a2] at hi ⊢
 rw [← I] at hj ⊢
 have HT:=O hT;clear hT;have HU:=O hU;clear hU;have HN:=O a4;clear a4;have Nv:=O D_;clear D_;have HM:=O a2;clear a2;have dZ:=O I;clear I;have eH:=O (ah (ah (Below.refl w.heap.size w) (aaJ _) (o:=.cells #[.slice A n c,.slice B m d] 26)) (by simp) (o:=.cells #[.slice A' n' V,.slice B' m' X] 26));have a5:=O ((aC.new w 26 #[.slice A n c,.slice B m d]).alloc (.cells #[.slice A' n' V,.slice B' m' X] 26));have iK:=O (dL (W:=w.alloc (.cells #[.slice A n c,.slice B m d] 26)) (T:=26) (cs:=#[.slice A' n' V,.slice B' m' X]) (k:=w.heap.size+1) (by simp));by_cases hn:n=n'
 case neg =>
  have q1:((n:Int) != (n':Int))=true:=by simp;omega
  have t:=O (show ¬ ((aA xs).map eU=(aA ys).map eU∧its=iB) from fun h=>hn (by have:=congrArg List.length h.1;simp only [List.length_map,aD] at this;rw [HN.o,Nv.o];exact this));clear hn;go_in
  go_wp2_with fail;go_ret;exact⟨eH.o,false,rfl,by simp only [Bool.false_eq_true,false_iff];exact t.o⟩
 subst hn;have q1:((n:Int) != (n:Int))=false:=by simp
 by_cases hm:m=m'
 case neg =>
  have q2:((m:Int) != (m':Int))=true:=by simp;omega
  have t:=O (show ¬ ((aA xs).map eU=(aA ys).map eU∧its=iB) from fun h=>hm (by rw [HM.o,dZ.o,h.2]));clear hm;go_in
  go_wp2_with fail;go_ret;exact⟨eH.o,false,rfl,by simp only [Bool.false_eq_true,false_iff];exact t.o⟩
 subst hm;have q2:((m:Int) != (m:Int))=false:=by simp
 clear hy hj;go_in
 go_wp2_with fail;go_loopw [5] (fun i wr=>∃ k:Nat,k≤m∧i=.int .i64 k∧Hid (its.take k=iB.take k)∧Hid (aC wr w.heap.size 26 #[.slice A n c,.slice B m d])∧Hid (aC wr (w.heap.size+1) 26 #[.slice A' n V,.slice B' m X])∧Hid (Below w.heap.size w wr)) (fun i _=>m - (intOf i).toNat)
 case atStart=>exact⟨0,aaL _,rfl,O rfl,a5,iK,eH⟩
 case round =>
  obtain⟨k,hk,rfl,HK,C,D,a⟩:=hrel;clear eH a5 iK;have x0:=C.o.cell 0;have x1:=C.o.cell 1;have y0:=D.o.cell 0;have y1:=D.o.cell 1;by_cases P:k < m
  ·have i3:decide (k < m)=true:=aaU P;obtain⟨b,o,rfl,Y,hc⟩:=HT.o.items.ex (by rw [← HM.o];omega);obtain⟨M,S,rfl,qZ,Z⟩:=HU.o.items.ex (by rw [← dZ.o];omega);obtain⟨p,hp⟩:∃ p,its[k]? = some p:=⟨_,aaD (by rw [← HM.o];exact P)⟩;obtain⟨q,hq⟩:∃ p,iB[k]? = some p:=⟨_,aaD (by rw [← dZ.o];exact P)⟩;have cp:=(a.o.cell (p:=⟨b,o+k,none⟩) (by exact Y)).trans (hc k p hp);have cq:=(a.o.cell (p:=⟨M,S+k,none⟩) (by exact qZ)).trans (Z k q hq);have z0:(0:Int)≤(k:Int):=by omega
   have z1:(k:Int) < (m:Int):=by omega
   by_cases f:p=q
   ·have gX:=O (UJ hp hq f HK.o);have e1:(p != q)=false:=by simp [f]
    clear hc Z hp hq f;go_wp2_with fail;go_quiet (fail)
    go_wp2_with fail;exact⟨⟨k+1,by omega,by go_num,gX,O (C.o.drewN _),O (D.o.drewN _),O (gU a.o _)⟩,by simp [intOf];omega⟩
   ·have t:=O (show ¬ ((aA xs).map eU=(aA ys).map eU∧its=iB) from fun h=>FP hp hq f h.2);have e1:(p != q)=true:=by simp [f]
    clear hc Z hp hq f;go_wp2_with fail;go_quiet (fail)
    go_wp2_with fail;go_ret;exact⟨gU a.o _,false,rfl,by simp only [Bool.false_eq_true,false_iff];exact t.o⟩
  ·have i3:decide (k < m)=false:=aaV P;have b0:=O (KV (by rw [← HM.o];omega) (by rw [← dZ.o];omega) HK.o);clear HK;go_wp2_with fail;clear x0 x1 y0 y1;go_loopw [6] (fun i wr=>∃ k:Nat,k≤n∧i=.int .i64 k∧Hid (((aA xs).take k).map eU=((aA ys).take k).map eU)∧Hid (aC wr w.heap.size 26 #[.slice A n c,.slice B m d])∧Hid (aC wr (w.heap.size+1) 26 #[.slice A' n V,.slice B' m X])∧Hid (Below w.heap.size w wr)) (fun i _=>n - (intOf i).toNat)
   case atStart=>exact⟨0,aaL _,rfl,O rfl,C,D,a⟩
   case round =>
    clear C D a;obtain⟨U,rfl⟩:∃ U:World,U=wr:=⟨_,rfl⟩;obtain⟨k,hk,rfl,HK,C,D,a⟩:=hrel;have x0:=C.o.cell 0;have x1:=C.o.cell 1;have y0:=D.o.cell 0;have y1:=D.o.cell 1;by_cases Q:k < n
    ·have i3:decide (k < n)=true:=aaU Q;obtain⟨b,o,rfl,E⟩:=HT.o.nodes (by rw [← HN.o];omega);obtain⟨M,S,rfl,F⟩:=HU.o.nodes (by rw [← Nv.o];omega);obtain⟨x,L⟩:∃ x,xs[k]? = some x:=jD (by rw [← HN.o];exact Q);obtain⟨y,hy⟩:∃ y,ys[k]? = some y:=jD (by rw [← Nv.o];exact Q);have c0:=(a.o.cell (p:=⟨b,o+k * 5,none⟩) E.lt).trans (E.c0 k x L);have c1:=(a.o.cell (p:=⟨b,o+k * 5+1,none⟩) E.lt).trans (E.c1 k x L);have c2:=(a.o.cell (p:=⟨b,o+k * 5+2,none⟩) E.lt).trans (E.c2 k x L);have c3:=(a.o.cell (p:=⟨b,o+k * 5+3,none⟩) E.lt).trans (E.c3 k x L);have c4:=(a.o.cell (p:=⟨b,o+k * 5+4,none⟩) E.lt).trans (E.c4 k x L);have d0:=(a.o.cell (p:=⟨M,S+k * 5,none⟩) F.lt).trans (F.c0 k y hy);have d1:=(a.o.cell (p:=⟨M,S+k * 5+1,none⟩) F.lt).trans (F.c1 k y hy);have d2:=(a.o.cell (p:=⟨M,S+k * 5+2,none⟩) F.lt).trans (F.c2 k y hy);have d3:=(a.o.cell (p:=⟨M,S+k * 5+3,none⟩) F.lt).trans (F.c3 k y hy);have d4:=(a.o.cell (p:=⟨M,S+k * 5+4,none⟩) F.lt).trans (F.c4 k y hy);obtain⟨Ka,ca,a6,b5,a7⟩:=E.kid L;obtain⟨Kb,cb,a8,b6,a9⟩:=F.kid hy;rw [a6] at c3
     rw [a8] at d3
     have tK:=O a7;have b3:=O a9;have Rh:=O (gP L);have kJ:=O (gP hy);have b9:=C.o.lt;have c5:=D.o.lt;have b7:b < U.heap.size:=aaW E.lt a.o.size;have b8:M < U.heap.size:=aaW F.lt a.o.size;clear E F L hy a6 a8 a7 a9;have z0:(0:Int)≤(k:Int):=by omega
     have z1:(k:Int) < (n:Int):=by omega
     have F7:=O (show eU x.1 ≠ eU y.1→¬ ((aA xs).map eU=(aA ys).map eU∧its=iB) from fun h h2=>by
      refine FP (l:=(aA xs).map eU) (r:=(aA ys).map eU) (k:=k) ?_ ?_ h h2.1
      ·rw [List.getElem?_map,Rh.o];rfl
      ·rw [List.getElem?_map,kJ.o];rfl)
     go_upto_region 11 with (fail)
     go_cut [7,8] from 44 to 106 (fun u v wx=>∃ p q:Nat,u=.pointer (some ⟨p,0,none⟩)∧v=.pointer (some ⟨q,0,none⟩)∧Hid (aC wx p 50 #[.int .u8 x.1.kind,.string (aM x.1.text),.int .i64 x.1.n,.slice Ka x.1.kids.length ca,.int .i64 x.1.at_])∧Hid (aC wx q 50 #[.int .u8 y.1.kind,.string (aM y.1.text),.int .i64 y.1.n,.slice Kb y.1.kids.length cb,.int .i64 y.1.at_])∧Hid (Below U.heap.size U wx))
     case first =>
      go_region
      all_goals
       go_wp2_with fail;go_meet
       refine⟨_,_,rfl,rfl,O (aC.drew ?_),O (aC.drew ?_),O (Below.drew (ah (ah (Below.refl _ _) (aaJ _)) (by simp)))⟩
       ·first | exact (aC.new U _ _).alloc _ | exact dL (by simp)
       ·first | exact (aC.new U _ _).alloc _ | exact dL (by simp)
     case rest =>
      obtain⟨p,q,rfl,rfl,J,K,Ql⟩:=hcut;have bC:=O (a.o.trans (Ql.o.mono a.o.size));have nZ:=O (C.o.below Ql.o C.o.lt);have oh:=O (D.o.below Ql.o D.o.lt);clear C D a Ql x0 x1 y0 y1 c0 c1 c2 c3 c4 d0 d1 d2 d3 d4;have x0:=nZ.o.cell 0;have x1:=nZ.o.cell 1;have y0:=oh.o.cell 0;have y1:=oh.o.cell 1;have c0:=J.o.cell 0;have c1:=J.o.cell 1;have c2:=J.o.cell 2;have c3:=J.o.cell 3;have d0:=K.o.cell 0;have d1:=K.o.cell 1;have d2:=K.o.cell 2;have d3:=K.o.cell 3;by_cases h1:x.1.kind=y.1.kind
      case neg =>
       have e1:((x.1.kind:Int) != (y.1.kind:Int))=true:=by simp;omega
       have t:=O (F7.o fun h=>h1 (show x.1.kind=y.1.kind from by have h9:=congrArg Nd.kind h;exact h9));clear h1;go_wp2_with fail;go_ret;exact⟨bC.o,false,rfl,by simp only [Bool.false_eq_true,false_iff];exact t.o⟩
      have e1:((x.1.kind:Int) != (y.1.kind:Int))=false:=by simp;omega
      by_cases h2:x.1.text=y.1.text
      case neg =>
       have e2:(x.1.text != y.1.text)=true:=by simpa using h2
       have t:=O (F7.o fun h=>h2 (show x.1.text=y.1.text from by have h9:=congrArg Nd.text h;exact h9));have H1:=O h1;clear h1;go_wp2_with fail;go_ret;exact⟨bC.o,false,rfl,by simp only [Bool.false_eq_true,false_iff];exact t.o⟩
      have e2:(x.1.text != y.1.text)=false:=by simpa using h2
      by_cases h3:x.1.n=y.1.n
      case neg =>
       have e3:(x.1.n != y.1.n)=true:=by simpa using h3
       have t:=O (F7.o fun h=>h3 (show x.1.n=y.1.n from by have h9:=congrArg Nd.n h;exact h9));have H1:=O h1;have H2:=O h2;clear h1 h2 h3;go_wp2_with fail;go_ret;exact⟨bC.o,false,rfl,by simp only [Bool.false_eq_true,false_iff];exact t.o⟩
      have e3:(x.1.n != y.1.n)=false:=by simpa using h3
      obtain⟨g,a3⟩:∃ g,g=x.1.kids.length:=⟨_,rfl⟩;obtain⟨vY,fV⟩:∃ g,g=y.1.kids.length:=⟨_,rfl⟩;have H1:=O h1;have H2:=O h2;have H3:=O h3;clear h1 h2 h3;rw [← a3] at c3 b5 J
      rw [← fV] at d3 b6 K
      have Xo:=O a3;have gX:=O fV;clear a3 fV;by_cases h4:g=vY
      case neg =>
       have e4:((g:Int) != (vY:Int))=true:=by simp;omega
       have t:=O (F7.o fun h=>h4 (by rw [Xo.o,gX.o];have h9:=congrArg (fun z=>z.kids.length) h;exact h9));clear h4;go_wp2_with fail;go_ret;exact⟨bC.o,false,rfl,by simp only [Bool.false_eq_true,false_iff];exact t.o⟩
      subst h4;have e4:((g:Int) != (g:Int))=false:=by simp
      go_wp2_with fail;go_loopw [9] (fun i wr=>∃ j:Nat,j≤g∧i=.int .i64 j∧Hid (x.1.kids.take j=y.1.kids.take j)∧Hid (aC wr p 50 #[.int .u8 x.1.kind,.string (aM x.1.text),.int .i64 x.1.n,.slice Ka g ca,.int .i64 x.1.at_])∧Hid (aC wr q 50 #[.int .u8 y.1.kind,.string (aM y.1.text),.int .i64 y.1.n,.slice Kb g cb,.int .i64 y.1.at_])∧Hid (aC wr w.heap.size 26 #[.slice (some ⟨b,o,none⟩) n c,.slice B m d])∧Hid (aC wr (w.heap.size+1) 26 #[.slice (some ⟨M,S,none⟩) n V,.slice B' m X])∧Hid (Below w.heap.size w wr)) (fun i _=>g - (intOf i).toNat)
      case atStart=>exact⟨0,aaL _,rfl,O rfl,J,K,nZ,oh,bC⟩
      case round =>
       clear J K nZ oh bC x0 x1 y0 y1 c0 c1 c2 c3 d0 d1 d2 d3;obtain⟨j,hj,rfl,HJ,J,K,C,D,a⟩:=hrel;have c3:=J.o.cell 3;have d3:=K.o.cell 3;by_cases N:j < g
       ·have i4:decide (j < g)=true:=aaU N;obtain⟨bk,ok,rfl,b4,a0⟩:=tK.o.ex (by rw [← Xo.o];omega);obtain⟨bl,ol,rfl,Y,a1⟩:=b3.o.ex (by rw [← gX.o];omega);obtain⟨R,G⟩:∃ R,x.1.kids[j]? = some R:=⟨_,aaD (by rw [← Xo.o];exact N)⟩;obtain⟨kq,H⟩:∃ R,y.1.kids[j]? = some R:=⟨_,aaD (by rw [← gX.o];exact N)⟩;have cj:=(a.o.cell (p:=⟨bk,ok+j,none⟩) b4).trans (a0 j R G);have dj:=(a.o.cell (p:=⟨bl,ol+j,none⟩) Y).trans (a1 j kq H);have z2:(0:Int)≤(j:Int):=by omega
        have z3:(j:Int) < (g:Int):=by omega
        by_cases f:R=kq
        ·have b1:=O (UJ G H f HJ.o);have e5:(R != kq)=false:=by simp [f]
         clear a0 a1 G H f;go_wp2_with fail;go_quiet (fail)
         go_wp2_with fail;exact⟨⟨j+1,by omega,by go_num,b1,O (J.o.drewN _),O (K.o.drewN _),O (C.o.drewN _),O (D.o.drewN _),O (gU a.o _)⟩,by simp [intOf];omega⟩
        ·have t:=O (F7.o fun h=>FP G H f (show x.1.kids=y.1.kids from by have h9:=congrArg Nd.kids h;exact h9));have e5:(R != kq)=true:=by simp [f]
         clear a0 a1 G H f;go_wp2_with fail;go_quiet (fail)
         go_wp2_with fail;go_ret;exact⟨gU a.o _,false,rfl,by simp only [Bool.false_eq_true,false_iff];exact t.o⟩
       ·have i4:decide (j < g)=false:=aaV N;have b2:=O (KV (by rw [← Xo.o];omega) (by rw [← gX.o];omega) HJ.o)
        have ql:=O (show ((aA xs).take (k+1)).map eU=((aA ys).take (k+1)).map eU by
         rw [List.take_add_one,List.take_add_one,Rh.o,kJ.o,List.map_append,List.map_append,HK.o];simp [eU,H1.o,H2.o,H3.o,b2.o])
        go_wp2_with fail;exact⟨⟨k+1,by omega,by go_num,ql,C,D,a⟩,by simp [intOf];omega⟩
    ·have i3:decide (k < n)=false:=aaV Q
     have fu:=O (show (aA xs).map eU=(aA ys).map eU by
      have h9:=HK.o
      rwa [aaN (by rw [aD,← HN.o];omega),aaN (by rw [aD,← Nv.o];omega)] at h9)
     go_wp2_with fail;go_ret;exact⟨a.o,true,rfl,by simp only [true_iff];exact⟨fu.o,b0.o⟩⟩
theorem Py (A B A' B':Option Addr)(c d t u:Nat)(xs ys:List NV)(its:List Int)(w:World)(J:mq w A B xs its)(K:mq w A' B' ys its)(I:aA xs=aA ys)(v:xs.length≤100000)(hi:its.length≤100000) :
  Calls Tryz.prog 19 #[.agg #[.slice A xs.length c,.slice B its.length d],.agg #[.slice A' ys.length t,.slice B' its.length u]] w fun e w'=>Below w.heap.size w w'∧e=.returned (.bool true):=by
 have F:ys.length=xs.length:=by rw [← aD,← aD,I]
 have D:=O fun W (R:Below w.heap.size w W)=>JZ A B A' B' c d t u xs ys its its W (J.below R) (K.below R) v (by omega) hi hi
 rw [F] at D ⊢
 obtain⟨n,g⟩:∃ n,n=xs.length:=⟨_,rfl⟩;obtain⟨m,C⟩:∃ m,m=its.length:=⟨_,rfl⟩;rw [← g,← C] at D ⊢
 rw [← g] at v F
 have N:=O g;clear g;have P:=O F.symm;clear F;have M:=O I;clear I;have U:=O J;clear J;have V:=O K;clear K;clear C hi;have E:=O (ah (ah (Below.refl w.heap.size w) (aaJ _) (o:=.cells #[.slice A n c,.slice B m d] 26)) (by simp) (o:=.cells #[.slice A' n t,.slice B' m u] 26));have j:=O ((aC.new w 26 #[.slice A n c,.slice B m d]).alloc (.cells #[.slice A' n t,.slice B' m u] 26));have L:=O (dL (W:=w.alloc (.cells #[.slice A n c,.slice B m d] 26)) (T:=26) (cs:=#[.slice A' n t,.slice B' m u]) (k:=w.heap.size+1) (by simp));go_in
 go_wp2_with fail;refine (D.o _ E.o).mono ?_;rintro e w1⟨a,r,rfl,S⟩;obtain rfl:r=true:=S.2 ⟨by rw [M.o],by trivial⟩;clear S;have l:=O (j.o.below a j.o.lt);have q:=O (L.o.below a L.o.lt);have h:=O (E.o.trans (a.mono E.o.size));clear j L E a D;go_wp2_with fail;go_loopw [5] (fun i wr=>∃ k:Nat,k≤n∧i=.int .i64 k∧Hid (aC wr w.heap.size 26 #[.slice A n c,.slice B m d])∧Hid (aC wr (w.heap.size+1) 26 #[.slice A' n t,.slice B' m u])∧Hid (Below w.heap.size w wr)) (fun i _=>n - (intOf i).toNat)
 case atStart=>exact⟨0,aaL _,rfl,l,q,h⟩
 case round =>
  clear l q h;obtain⟨k,hk,rfl,l,q,h⟩:=hrel;have x0:=l.o.cell 0;have x1:=l.o.cell 1;have y0:=q.o.cell 0;have y1:=q.o.cell 1;by_cases f:k < n
  ·have Z:decide (k < n)=true:=aaU f;obtain⟨b,o,rfl,G⟩:=U.o.nodes (by rw [← N.o];omega);obtain⟨X,o',rfl,H⟩:=V.o.nodes (by rw [← P.o];omega);obtain⟨x,v⟩:∃ x,xs[k]? = some x:=jD (by rw [← N.o];exact f);obtain⟨y,hy⟩:∃ y,ys[k]? = some y:=jD (by rw [← P.o];exact f);have c4:=(h.o.cell (p:=⟨b,o+k * 5+4,none⟩) G.lt).trans (G.c4 k x v);have Y:=(h.o.cell (p:=⟨X,o'+k * 5+4,none⟩) H.lt).trans (H.c4 k y hy)
   have Q:y.1=x.1:=by
    have h1:=gP v;have h2:=gP hy;rw [M.o] at h1
    exact aaP (h2.symm.trans h1)
   rw [Q] at Y
   clear G H v hy Q;have z0:(0:Int)≤(k:Int):=by omega
   have z1:(k:Int) < (n:Int):=by omega
   have e2:(x.1.at_ != x.1.at_)=false:=by simp
   go_wp2_with fail;go_quiet (fail)
   go_wp2_with fail;exact⟨⟨k+1,by omega,by go_num,O (l.o.drewN _),O (q.o.drewN _),O (gU h.o _)⟩,by simp [intOf];omega⟩
  ·have Z:decide (k < n)=false:=aaV f;go_wp2_with fail;go_ret;exact⟨h.o,rfl⟩
theorem dG (A B:Option Addr)(c d:Nat)(xs:List NV)(its:List Int)(w:World)(hR:Gg w A B xs its)(Y:xs.length≤17592186044416)(hi:its.length≤17592186044416)(hX:∀ x ∈ xs,x.1.text.length≤140737488351232∧x.1.kids.length≤17592186044416) :
  Calls Tryz.prog 20 #[.agg #[.slice A xs.length c,.slice B its.length d]] w fun e w'=>e=.returned (.bool (Rn ⟨aA xs,its⟩))∧Below w.heap.size w w':=by
 obtain⟨n,j⟩:∃ n,n=xs.length:=⟨_,rfl⟩;obtain⟨m,v⟩:∃ m,m=its.length:=⟨_,rfl⟩;rw [← j] at Y ⊢
 rw [← v] at hi ⊢
 have t:=O (show Rn ⟨aA xs,its⟩=(decide (900 < n) || decide (100 < m) || decide (3000 < JJ ((aA xs).take 901)) || decide (5000 < JI ((aA xs).take 901))) by unfold Rn;rw [j,v];simp only [aD]);have pF:=O (show (aA xs).length=n by rw [aD,j]);have uS:=O j;clear j;clear v;have HR:=O hR;clear hR;have HX:=O hX;clear hX
 have Ng:=O (show ∀ k,JJ ((aA xs).take k)≤k * 17592186044416∧JI ((aA xs).take k)≤k * 140737488351232 from fun k=>by
  have q:∀ x ∈ (aA xs).take k,x.text.length≤140737488351232∧x.kids.length≤17592186044416:=fun x g=>by
   obtain⟨y,hy,rfl⟩:=List.mem_map.1 (List.mem_of_mem_take g);exact HX.o y hy
  have l:((aA xs).take k).length≤k:=List.length_take_le _ _;exact⟨Nat.le_trans (Tn fun x g=>(q x g).2) (Nat.mul_le_mul_right _ l),Nat.le_trans (Tm fun x g=>(q x g).1) (Nat.mul_le_mul_right _ l)⟩)
 go_in
 go_wp2_with fail;have L:=O (aC.new w 26 #[.slice A n c,.slice B m d]);have eH:=O (ah (Below.refl w.heap.size w) (aaJ _) (o:=.cells #[.slice A n c,.slice B m d] 26));go_loopw [3,4,5] (fun kv bv i wr=>∃ k S Z:Nat,k≤n∧k≤901∧i=.int .i64 k∧kv=.int .i64 S∧bv=.int .i64 Z∧Hid (S=JJ ((aA xs).take k))∧Hid (Z=JI ((aA xs).take k))∧Hid (aC wr w.heap.size 26 #[.slice A n c,.slice B m d])∧Hid (Below w.heap.size w wr)) (fun _ _ i _=>901 - (intOf i).toNat)
 case atStart=>exact⟨0,0,0,aaL _,by omega,rfl,rfl,rfl,O (by simp [JJ]),O (by simp [JI]),L,eH⟩
 case round =>
  obtain⟨k,S,Z,hk,vJ,rfl,rfl,rfl,I,N,J,r⟩:=hrel;have t0:=J.o.cell 0;have t1:=J.o.cell 1
  have a0:S≤901 * 17592186044416:=by
   have h9:=(Ng.o k).1;rw [← I.o] at h9
   exact Nat.le_trans h9 (Nat.mul_le_mul_right _ vJ)
  have a1:Z≤901 * 140737488351232:=by
   have h9:=(Ng.o k).2;rw [← N.o] at h9
   exact Nat.le_trans h9 (Nat.mul_le_mul_right _ vJ)
  by_cases W:k < n∧k < 901
  ·obtain⟨a,X⟩:=W;have i3:decide (k < n)=true:=aaU a;have i4:decide (k < 901)=true:=aaU X;have i5:decide ((k:Int) < 901)=true:=aaU (by omega);obtain⟨b,o,rfl,G,V⟩:=HR.o.nodes (by rw [← uS.o];omega);obtain⟨x,g⟩:∃ x,xs[k]? = some x:=⟨_,aaD (by rw [← uS.o];exact a)⟩;obtain⟨K,ck,H,_⟩:=HR.o.kids x (aaM g);have hq:=HX.o x (aaM g);have T:=V k 1 x _ g rfl;rw [← Nat.add_assoc] at T
   have c1:=(r.o.cell (p:=⟨b,o+k * 5+1,none⟩) (by exact G)).trans T;have U:=V k 3 x _ g rfl;rw [← Nat.add_assoc] at U
   have c3:=(r.o.cell (p:=⟨b,o+k * 5+3,none⟩) (by exact G)).trans U;rw [H] at c3
   clear T U;have uM:=O (show (aA xs).take (k+1)=(aA xs).take k ++ [x.1] by rw [List.take_add_one,gP g];rfl);clear V H g;obtain⟨nk,C⟩:∃ q,q=x.1.kids.length:=⟨_,rfl⟩;obtain⟨tx,D⟩:∃ q,q=x.1.text:=⟨_,rfl⟩;rw [← D] at c1 hq
   rw [← C] at c3 hq
   have nu:=O C;clear C;have M:=O D;clear D;have z0:(0:Int)≤(k:Int):=by omega
   have z1:(k:Int) < (n:Int):=by omega
   have w1:IntKind.i64.wrap ((S:Int)+(nk:Int))=(S:Int)+(nk:Int):=IntWalk.i64_in _ (by omega);have w2:IntKind.i64.wrap ((Z:Int)+(tx.length:Int))=(Z:Int)+(tx.length:Int):=IntWalk.i64_in _ (by omega);go_wp2_with fail;go_quiet (fail)
   go_wp2_with fail
   refine⟨⟨k+1,S+nk,Z+tx.length,by omega,by omega,by go_num,by simp,by simp,O (by rw [uM.o,sumK_snoc,I.o,nu.o]),O (by rw [uM.o,sumB_snoc,N.o,M.o]),O (J.o.drewN _),O (gU r.o _)⟩,by simp [intOf];omega⟩
  ·have h:∀ f:List Nd→Nat,f ((aA xs).take k)=f ((aA xs).take 901):=fun f=>by
    by_cases h9:k=901
    ·rw [h9]
    ·have h8:=pF.o;rw [aaN (by omega),aaN (by omega)]
   have wK:=O (show JJ ((aA xs).take 901)=S by rw [I.o];exact (h JJ).symm);have Ez:=O (show JI ((aA xs).take 901)=Z by rw [N.o];exact (h JI).symm);rw [wK.o,Ez.o] at t
   clear h;have u:¬ k < n∨(k < n∧k=901):=by omega
   rcases u with a | ⟨a,rfl⟩
   ·have i3:decide (k < n)=false:=aaV a;go_upto_region 6 with (fail)
    by_cases h1:900 < n
    ·have E:decide (900 < n)=true:=aaU h1;have F:decide ((900:Int) < (n:Int))=true:=aaU (by omega);go_wp2;go_ret;exact⟨by rw [t.o];simp [E],r.o⟩
    have E:decide (900 < n)=false:=aaV h1;have F:decide ((900:Int) < (n:Int))=false:=aaV (by omega);by_cases h2:100 < m
    ·have P:decide (100 < m)=true:=aaU h2;have kY:decide ((100:Int) < (m:Int))=true:=aaU (by omega);go_wp2;go_ret;exact⟨by rw [t.o];simp [P],r.o⟩
    have P:decide (100 < m)=false:=aaV h2;have kY:decide ((100:Int) < (m:Int))=false:=aaV (by omega);by_cases h3:3000 < S
    ·have Q:decide (3000 < S)=true:=aaU h3;have xJ:decide ((3000:Int) < (S:Int))=true:=aaU (by omega);go_wp2;go_ret;exact⟨by rw [t.o];simp [Q],r.o⟩
    have Q:decide (3000 < S)=false:=aaV h3;have xJ:decide ((3000:Int) < (S:Int))=false:=aaV (by omega);by_cases h4:5000 < Z
    ·have R:decide (5000 < Z)=true:=aaU h4;have xP:decide ((5000:Int) < (Z:Int))=true:=aaU (by omega);go_wp2;go_ret;exact⟨by rw [t.o];simp [R],r.o⟩
    have R:decide (5000 < Z)=false:=aaV h4;have xP:decide ((5000:Int) < (Z:Int))=false:=aaV (by omega);go_wp2;go_ret;exact⟨by rw [t.o];simp [E,P,Q,R],r.o⟩
   ·have i3:decide (901 < n)=true:=aaU a;have i4:decide ((901:Int) < (n:Int))=true:=aaU (by omega);have E:decide (900 < n)=true:=aaU (by omega);have F:decide ((900:Int) < (n:Int))=true:=aaU (by omega);go_wp2;go_ret;exact⟨by rw [t.o];simp [E],r.o⟩
end Go.Proofs.YthepmkjggfijoaaGreatDoor
