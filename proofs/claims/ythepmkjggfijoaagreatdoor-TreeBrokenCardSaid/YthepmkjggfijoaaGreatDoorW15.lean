/-
  A part of the proof.
-/
import Derived.Test.YthepmkjggfijoaaGreatDoorSA
import Derived.Test.YthepmkjggfijoaaGreatDoorS21
import Derived.Test.YthepmkjggfijoaaGreatDoorS22
import Derived.Test.YthepmkjggfijoaaGreatDoorW12
set_option linter.all false
set_option maxRecDepth 100000
set_option maxHeartbeats 4000000
namespace Go.Proofs.YthepmkjggfijoaaGreatDoor
open Go.RowKit Mist
attribute [local go_sem] aj aH aS aB ak
theorem R3 {w:World}{A:Option Addr}{ks:List Int}(h:IntsIn w A ks):Reads w w.heap.size 1 A ks.length (intCells ks):=by
 refine⟨by rw [rG,Nat.mul_one],fun h0=>?_⟩
 obtain⟨b,o,rfl,f,d⟩:=h.ex h0
 refine⟨⟨b,o,none⟩,rfl,f,fun j u a=>?_⟩
 rw [sj];have c:j < ks.length:=by have:=(aaE.1 a).1;rwa [rG] at this
 have e:u=.int .i64 ks[j]:=by
  have h9:(intCells ks)[j]? = some (.int .i64 ks[j]):=by simp [intCells,c]
  rw [h9] at a;exact (aaP a).symm
 rw [e];exact d j _ (aaD c)
structure RowsIn (g:Nat) (w:World) (nv iv:Value) (xs:List NV) (its:List Int):Prop where
 own:w.ownsRow g 50 5 nv xs.length (iO xs)
 kids:∀ x ∈ xs,w.ownsRow g 3 1 x.2 x.1.kids.length (intCells x.1.kids)
 row:w.ownsRow g 3 1 iv its.length (intCells its)
 far:∀ x ∈ xs,x.2.ownBlock=none∨x.2.ownBlock ≠ iv.ownBlock
theorem RowsIn.below {g:Nat}{w b:World}{nv iv:Value}{xs:List NV}{its:List Int}(h:RowsIn g w nv iv xs its)(a:Below w.heap.size w b):RowsIn g b nv iv xs its :=
 ⟨own_below h.own a,fun x c=>own_below (h.kids x c) a,own_below h.row a,h.far⟩
theorem RowsIn.add {g:Nat}{w w1:World}{tb:Nat}{nv eO iv:Value}{xs:List NV}{its:List Int}{x:NV}(h:RowsIn g w nv iv xs its)(i:aC w tb 26 #[nv,iv])(d:w.grownBy w1 nv.ownBlock)(a:w1.ownsRow g 50 5 eO (xs.length+1) (iO xs ++ fC x))(b:w.ownsRow g 3 1 x.2 x.1.kids.length (intCells x.1.kids))(j:x.2.ownBlock=none∨x.2.ownBlock ≠ iv.ownBlock) :
  RowsIn g (w1.setCell ⟨tb,0,none⟩ eO) eO iv (xs ++ [x]) its∧aC (w1.setCell ⟨tb,0,none⟩ eO) tb 26 #[eO,iv]:=by
 have c:=i.grown d (fun e=>aT h.own i (by decide) e.symm)
 have keep:∀ {v:Value} {n:Nat} {f:List Value},w.ownsRow g 3 1 v n f→(w1.setCell ⟨tb,0,none⟩ eO).ownsRow g 3 1 v n f:=fun b =>
  ownsRow_setCell_other (b.kept d (iE b h.own (by decide))) (aT (b.kept d (iE b h.own (by decide))) c (by decide)) _
 refine⟨⟨?_,fun y hy=>?_,keep h.row,fun y hy=>?_⟩,?_⟩
 ·rw [aaO,rJ];have e:iO [x]=fC x:=by simp [iO]
  rw [e];exact ownsRow_setCell_other a (aT a c (by decide)) _
 ·rcases List.mem_append.1 hy with hy | hy
  ·exact keep (h.kids y hy)
  ·rw [List.mem_singleton.1 hy];exact keep b
 ·rcases List.mem_append.1 hy with hy | hy
  ·exact h.far y hy
  ·rw [List.mem_singleton.1 hy];exact j
 ·have:=c.d_ 0 eO;simpa using this
theorem RowsIn.tY {g:Nat}{w:World}{nv iv:Value}{xs:List NV}{its:List Int}{c i:Nat}{cs:Array Value}{u:Value}(h:RowsIn g w nv iv xs its)(a:aC w c 26 cs):RowsIn g (w.setCell ⟨c,i,none⟩ u) nv iv xs its :=
 ⟨ownsRow_setCell_other h.own (aT h.own a (by decide)) u,fun x b=>ownsRow_setCell_other (h.kids x b) (aT (h.kids x b) a (by decide)) u,ownsRow_setCell_other h.row (aT h.row a (by decide)) u,h.far⟩
theorem Uh {w i:World}{v iv:Value}{b a e c s g n f:Nat}{xs ys:List Value}(h:i.ownsRow b e s v n xs)(j:w.heap.size≤b)(hi:w.ownsRow a c g iv f ys):v.ownBlock=none∨v.ownBlock ≠ iv.ownBlock:=by
 rcases h9:v.ownBlock with _ | q
 ·exact .inl rfl
 ·right
  intro d;have h1:=(h.lt q h9).1;have h2:=(hi.lt q d.symm).2;omega
theorem Xr (A B:Option Addr)(c d:Nat)(xs:List NV)(its:List Int)(w:World)(hT:mq w A B xs its)(hn:xs.length≤10000)(hm:its.length≤10000)(hr:∀ x ∈ xs,∀ k ∈ x.1.kids,jq≤k∧k≤gq) :
  Calls Tryz.prog 29 #[.agg #[.slice A xs.length c,.slice B its.length d]] w fun e w'=>Below w.heap.size w w'∧∃ nv iv ext,e=.returned (.agg #[nv,iv])∧RowsIn w.heap.size w' nv iv ext its∧aA ext=aA xs:=by
 obtain⟨n,b1⟩:∃ n,n=xs.length:=⟨_,rfl⟩;obtain⟨m,R⟩:∃ m,m=its.length:=⟨_,rfl⟩;rw [← b1] at hn ⊢
 rw [← R] at hm ⊢
 have a4:=O (R3 hT.items);rw [← R] at a4
 have pF:=O b1;clear b1;have U1:=O R;clear R;have HT:=O hT;clear hT;have HR:=O hr;clear hr;obtain⟨i0,e4,e8,e9,f0⟩:=info_parts rW;obtain⟨j0,c7,d3,d4,d5⟩:=info_parts gN;go_in
 have h0:=O (((Below.refl w.heap.size w).alloc (aaJ _) (.cells #[.slice A n c,.slice B m d] 26)).alloc (by simp) (.cells #[.slice none 0 0,.slice none 0 0] 26));have h1:=O (h0.o.alloc (by simp;omega) (.cells #[] 3));have a3:=O (World.ownsRow_made (base:=w.heap.size) (e:=3) (size:=1) ((w.alloc (.cells #[.slice A n c,.slice B m d] 26)).alloc (.cells #[.slice none 0 0,.slice none 0 0] 26)) #[] 0 (by simp;omega) (by simp [maxLen]) rfl);have e6:m * 8≤140737488355328:=by omega
 have V:=O (a4.o.below h1.o);go_wp2_with (at_builtin;go_loud (refine Dq _ rfl (.tmp 6) (.tmp 8) 24 rfl w.heap.size 3 j0 _ 1 8 Tryz.underlying24 c7 d3 d4 d5 rfl (by decide) (.slice (some ⟨w.heap.size+1+1,0,none⟩) 0 0) 0 [] rfl (by simpa using a3.o) w.heap.size B m d (intCells its) rfl V.o (by intro u hu;obtain⟨z,_,rfl⟩:=List.mem_map.1 hu;rfl) (by simp only [maxLen];omega) (by omega) (by simp;omega) ?_);intro v2 w2 j J _;rw [Nat.zero_add] at j;obtain⟨F,G,rfl⟩:=dh j)
 have d8:=O J;have b5:=O (show w2.ownsRow w.heap.size 3 1 (.slice F m G) m (intCells its) from by simpa using j);have a2:=O (show Below w.heap.size w w2 from h1.o.grown J (by simp;omega) (fun k hk=>by have:=(a3.o.lt k (by simpa using hk)).1;omega));have c5:=(aC.new w 26 #[.slice A n c,.slice B m d]).alloc (.cells #[.slice none 0 0,.slice none 0 0] 26);have b2:=O ((c5.alloc (.cells #[] 3)).grown J (fun e=>by first|(simp [Value.ownBlock] at e;done)|(simp [Value.ownBlock] at e;omega)));have c6:=dL (W:=w.alloc (.cells #[.slice A n c,.slice B m d] 26)) (T:=26) (cs:=#[.slice none 0 0,.slice none 0 0]) (k:=w.heap.size+1) (by simp);have a7:=O ((c6.alloc (.cells #[] 3)).grown J (fun e=>by first|(simp [Value.ownBlock] at e;done)|(simp [Value.ownBlock] at e;omega)));have K:=a2.o.size;have c9:w.heap.size+1 < w2.heap.size:=a7.o.lt;clear j J d8 c5 c6 a3 h0 h1 a4 V e6
 have qm:=O (show RowsIn w.heap.size (w2.alloc (.cells #[.slice none 0 0,.slice F m G] 26)) (.slice none 0 0) (.slice F m G) [] its from
  ⟨World.ownsRow_nil _ _ _ _,(fun x E=>by cases E),by rw [← U1.o];exact b5.o.alloc _,(fun x E=>by cases E)⟩)
 have N:=O (aC.new w2 26 #[.slice none 0 0,.slice F m G]);have Z:=O (b2.o.alloc (.cells #[.slice none 0 0,.slice F m G] 26));have a6:=O (a7.o.alloc (.cells #[.slice none 0 0,.slice F m G] 26));have eH:=O (ah a2.o K (o:=.cells #[.slice none 0 0,.slice F m G] 26));clear b2 a7 a2 b5
 generalize w2.alloc (.cells #[.slice none 0 0,.slice F m G] 26)=w4 at qm N Z a6 eH ⊢
 generalize w2.heap.size=tb at N K c9 ⊢
 go_loopw [4] (fun i wr=>∃ (k:Nat) (nv:Value) (ext:List NV),k≤n∧i=.int .i64 k∧ext.length=k∧Hid (aA ext=(aA xs).take k)∧Hid (RowsIn w.heap.size wr nv (.slice F m G) ext its)∧Hid (aC wr tb 26 #[nv,.slice F m G])∧Hid (aC wr w.heap.size 26 #[.slice A n c,.slice B m d])∧Hid (aC wr (w.heap.size+1) 26 #[.slice none 0 0,.slice none 0 0])∧Hid (Below w.heap.size w wr)) (fun i _=>n - (intOf i).toNat)
 case atStart=>exact⟨0,_,[],aaL _,rfl,rfl,O rfl,qm,N,Z,a6,eH⟩
 case round =>
  clear qm N Z a6 eH;obtain⟨l,rfl⟩:∃ l:World,l=wr:=⟨_,rfl⟩;obtain⟨k,nv,ext,hk,rfl,D,Li,C,S,HB,P,L⟩:=hrel;have t0:=HB.o.cell 0;have t1:=HB.o.cell 1;by_cases a9:k < n
  ·have i3:decide (k < n)=true:=aaU a9;obtain⟨An,cn,rfl⟩:=dh C.o.own;rw [D] at S
   have TD:=O D;have u0:=S.o.cell 0;have u1:=S.o.cell 1;have uf:=S.o.frozen 0;obtain⟨b,o,rfl,H⟩:=HT.o.nodes (by rw [← pF.o];omega);obtain⟨x,E⟩:∃ x,xs[k]? = some x:=jD (by rw [← pF.o];exact a9);have c0:=(L.o.cell (p:=⟨b,o+k * 5,none⟩) H.lt).trans (H.c0 k x E);have c1:=(L.o.cell (p:=⟨b,o+k * 5+1,none⟩) H.lt).trans (H.c1 k x E);have c2:=(L.o.cell (p:=⟨b,o+k * 5+2,none⟩) H.lt).trans (H.c2 k x E);have c3:=(L.o.cell (p:=⟨b,o+k * 5+3,none⟩) H.lt).trans (H.c3 k x E);have c4:=(L.o.cell (p:=⟨b,o+k * 5+4,none⟩) H.lt).trans (H.c4 k x E);obtain⟨Ka,ca,d0,d2,d1⟩:=H.kid E;rw [d0] at c3
   have tK:=O (d1.below L.o);have e2:=O (HR.o x (aaM E));have Rh:=O (gP E);clear H E d0 d1 D;obtain⟨⟨kd,tx,t,M,at_⟩,xv⟩:=x;simp only at c0 c1 c2 c3 c4 d2 tK e2 Rh
   obtain⟨f,b0⟩:∃ f,f=M.length:=⟨_,rfl⟩;rw [← b0] at c3 d2
   have nu:=O b0;clear b0;have z0:(0:Int)≤(k:Int):=by omega
   have z1:(k:Int) < (n:Int):=by omega
   have c8:=L.o.size;have f4:=S.o.lt;have e7:w.heap.size≤tb:=K;have oV:=O ((aC.new l 50 #[.int .u8 kd,.string (aM tx),.int .i64 t,.slice Ka f ca,.int .i64 at_]).alloc (.cells #[] 3));have n3:=oV.o.cell 3;have a8:Below l.heap.size l ((l.alloc (.cells #[.int .u8 kd,.string (aM tx),.int .i64 t,.slice Ka f ca,.int .i64 at_] 50)).alloc (.cells #[] 3)):=ah (ah (Below.refl _ _) (aaJ _)) (by simp);have b3:=O a8;have b4:=O (World.ownsRow_made (base:=l.heap.size) (e:=3) (size:=1) (l.alloc (.cells #[.int .u8 kd,.string (aM tx),.int .i64 t,.slice Ka f ca,.int .i64 at_] 50)) #[] 0 (by simp) (by simp [maxLen]) rfl);have a5:=R3 tK.o;rw [← nu.o] at a5
   have X:=O (a5.below a8);clear a5 a8;go_upto_region 7 with (at_builtin;go_loud (refine Dq _ rfl (.tmp 23) (.tmp 25) 24 rfl l.heap.size 3 j0 _ 1 8 Tryz.underlying24 c7 d3 d4 d5 rfl (by decide) (.slice (some ⟨l.heap.size+1,0,none⟩) 0 0) 0 [] rfl (by simpa using b4.o) l.heap.size Ka f ca (intCells M) rfl X.o (by intro u hu;obtain⟨z,_,rfl⟩:=List.mem_map.1 hu;rfl) (by simp only [maxLen];omega) (by omega) (by simp;omega) ?_);intro v6 w6 a Y _;rw [Nat.zero_add] at a;obtain⟨g,h,rfl⟩:=dh a;have I:=O (show w6.ownsRow l.heap.size 3 1 (.slice g f h) f (intCells M) from by simpa using a);have F6:=O (oV.o.grown Y (fun e=>by first|(simp [Value.ownBlock] at e;done)|(simp [Value.ownBlock] at e;omega)));have dA:=O (b3.o.grown Y (by simp;omega) (fun q hq=>by first|(simp [Value.ownBlock] at hq;done)|(simp [Value.ownBlock] at hq;omega)));have m3:=F6.o.frozen 3;have k3:=F6.o.cell 3;clear a Y)
   have y:=O (show aC (w6.setCell ⟨l.heap.size,3,none⟩ (.slice g f h)) l.heap.size 50 #[.int .u8 kd,.string (aM tx),.int .i64 t,.slice g f h,.int .i64 at_] from by have:=F6.o.d_ 3 (.slice g f h);simpa using this);have U:=O (dx (b:=l.heap.size) (i:=3) (u:=.slice g f h) dA.o (aaJ _));have a1:=O (show (w6.setCell ⟨l.heap.size,3,none⟩ (.slice g f h)).ownsRow l.heap.size 3 1 (.slice g f h) f (intCells M) from ownsRow_setCell_other I.o (aT I.o F6.o (by decide)) _);clear F6 dA I oV b3 b4 X m3 k3 n3
   generalize w6.setCell ⟨l.heap.size,3,none⟩ (.slice g f h)=w5 at y U a1 ⊢
   have AU:=O (C.o.below U.o);have zO:=O (S.o.below U.o S.o.lt);have e0:=O (sS a1.o (show w.heap.size≤_ by omega));have d7:=O (Uh a1.o (aaJ _) C.o.row);have r:=O (show w5.ownsRow w.heap.size 50 5 (.slice An k cn) k (iO ext) from by have h9:=AU.o.own;rw [TD.o] at h9;exact h9);have x0:=y.o.cell 0;have x1:=y.o.cell 1;have x2:=y.o.cell 2;have x3:=y.o.cell 3;have x4:=y.o.cell 4;clear u0 u1 uf c0 c1 c2 c3 c4;have u5:=zO.o.cell 0;have f6:=zO.o.lt;have f5:=zO.o.frozen 0;have f3:=U.o.size;go_wp2_with (at_builtin;go_loud (refine wpList_append_lies _ rfl (.tmp 29) (.tmp 31) 23 rfl w.heap.size 50 i0 _ 5 64 Tryz.underlying23 e4 e8 e9 f0 rfl (by decide) _ k (iO ext) rfl (r.o.alloc _) ⟨w5.heap.size,0,none⟩ 1 1 (fC (⟨kd,tx,t,M,at_⟩,.slice g f h)) rfl rfl (iP _ _ _) (by intro u hu;simp [fC] at hu;rcases hu with rfl | rfl | rfl | rfl | rfl <;> rfl) (by omega) (by simp only [maxLen];omega) (by omega) (by simp;omega) _ rfl ?_);intro gg Q w6 a Y xC z8;have kk:=(zO.o.alloc (.cells #[.int .u8 kd,.string (aM tx),.int .i64 t,.slice g f h,.int .i64 at_] 50)).grown Y (fun e=>aT r.o zO.o (by decide) e.symm);have f1:=kk.cell 0;have f2:=kk.frozen 0;clear kk;have b6:=AU.o.below (ah (Below.refl w5.heap.size w5) (aaJ _) (o:=.cells #[.int .u8 kd,.string (aM tx),.int .i64 t,.slice g f h,.int .i64 at_] 50));have Lx:=zO.o.alloc (.cells #[.int .u8 kd,.string (aM tx),.int .i64 t,.slice g f h,.int .i64 at_] 50);obtain⟨b7,b8⟩:=RowsIn.add (x:=(⟨kd,tx,t,M,at_⟩,.slice g f h)) (eO:=.slice (some ⟨gg,0,none⟩) (k+1) Q) b6 (by rw [TD.o];exact Lx) (by rw [TD.o];exact Y) (by rw [TD.o];exact a) (by show World.ownsRow _ _ _ 1 (.slice g f h) M.length (intCells M);rw [← nu.o];exact e0.o.alloc _) d7.o;have YE:=O b7;have YH:=O b8;have a0:=O Y;clear b7 b8 b6 Lx Y a xC)
   have cu:=HB.o.below U.o HB.o.lt;have b9:=P.o.below U.o P.o.lt;have d6:=O (((cu.alloc (.cells #[.int .u8 kd,.string (aM tx),.int .i64 t,.slice g f h,.int .i64 at_] 50)).grown a0.o (fun e=>aT r.o cu (by decide) e.symm)).far (p:=⟨tb,0,none⟩) (by show w.heap.size ≠ tb;omega) (.slice (some ⟨gg,0,none⟩) (k+1) Q));have e3:=O (((b9.alloc (.cells #[.int .u8 kd,.string (aM tx),.int .i64 t,.slice g f h,.int .i64 at_] 50)).grown a0.o (fun e=>aT r.o b9 (by decide) e.symm)).far (p:=⟨tb,0,none⟩) (by show w.heap.size+1 ≠ tb;omega) (.slice (some ⟨gg,0,none⟩) (k+1) Q));have e5:=(L.o.trans (U.o.mono c8)).size;have Nt:=O (dx (b:=tb) (i:=0) (u:=.slice (some ⟨gg,0,none⟩) (k+1) Q) ((ah (L.o.trans (U.o.mono c8)) e5 (o:=.cells #[.int .u8 kd,.string (aM tx),.int .i64 t,.slice g f h,.int .i64 at_] 50)).grown a0.o (by simp;omega) (fun q hq=>by have:=(r.o.lt q hq).1;omega)) e7)
   have Lj:=O (show aA (ext ++ [(⟨kd,tx,t,M,at_⟩,.slice g f h)])=(aA xs).take (k+1) by
    rw [nY,Li.o,List.take_add_one,Rh.o];rfl)
   exact⟨⟨k+1,_,ext ++ [(⟨kd,tx,t,M,at_⟩,.slice g f h)],by omega,by go_num,by rw [aaO,TD.o];rfl,Lj,YE,YH,d6,e3,Nt⟩,by simp [intOf];omega⟩
  ·have i3:decide (k < n)=false:=aaV a9;have e1:=O (show aA ext=aA xs by rw [Li.o,aaN (by rw [aD,← pF.o];omega)]);have u0:=S.o.cell 0;have u1:=S.o.cell 1;obtain⟨An,cn,rfl⟩:=dh C.o.own;rw [D] at u0 C
   have v0:=P.o.cell 0;have v1:=P.o.cell 1;have g0:=P.o.frozen 0;have g1:=P.o.frozen 1;have TD:=O D;clear D;go_wp2_with fail;have Ez:=(P.o.d_ 0 (.slice An k cn)).d_ 1 (.slice F m G);have r0:=Ez.cell 0;have r1:=Ez.cell 1;refine bodyPost_ret (v:=.agg #[.slice An k cn,.slice F m G]) (by simp [results,Tryz.f29,go_sem,r0,r1]) rfl ?_;exact⟨dx (dx L.o (by omega)) (by omega),_,_,ext,rfl,(C.o.tY P.o).tY (P.o.d_ 0 _),e1.o⟩
end Go.Proofs.YthepmkjggfijoaaGreatDoor
namespace Go.Proofs.YthepmkjggfijoaaGreatDoor
open Go.RowKit Mist
theorem Pq {g:Nat}{w:World}{A B:Option Addr}{c d:Nat}{xs:List NV}{its:List Int}(h:RowsIn g w (.slice A xs.length c) (.slice B its.length d) xs its)(b:∀ x ∈ xs,x.1.kids.length≤1000000):mq w A B xs its:=by
 refine⟨fun h0=>?_,yI h.row rfl⟩
 obtain⟨a,e,f⟩:=Ee h.own h0 (fun x i=>⟨_,h.kids x i⟩) b;exact⟨a,0,e,f⟩
theorem mq.keep {w m:World}{A B:Option Addr}{xs:List NV}{its:List Int}{tb:Nat}(h:mq w A B xs its)(u:w.heap.size≤m.heap.size)(l:∀ (o:Nat) k q,w.cell? ⟨tb,o,none⟩ ≠ some (.int k q))(g:∀ (b o:Nat),b ≠ tb→m.cell? ⟨b,o,none⟩=w.cell? ⟨b,o,none⟩):mq m A B xs its:=by
 have f:∀ {C:Option Addr} {v:List Int},IntsIn w C v→IntsIn m C v:=fun E=>⟨fun h0=>by
  obtain⟨b,o,e,F,r⟩:=E.ex h0
  refine⟨b,o,e,aaW F u,fun j k t=>?_⟩
  rw [g b _ (fun n=>l (o+j) _ _ (by rw [← n];exact r j k t))];exact r j k t⟩
 refine⟨fun h0=>?_,f h.items⟩
 obtain⟨b,o,e,d⟩:=h.nodes h0;have a:b ≠ tb:=fun n=>l _ _ _ (by rw [← n];exact d.c0 0 _ (aaD h0))
 refine⟨b,o,e,⟨⟨aaW d.lt u,fun i x c=>(g b _ a).trans (d.c3 i x c),fun x c=>?_⟩,fun i x c=>(g b _ a).trans (d.c0 i x c),fun i x c=>(g b _ a).trans (d.c1 i x c),fun i x c=>(g b _ a).trans (d.c2 i x c),fun i x c=>(g b _ a).trans (d.c4 i x c)⟩⟩
 obtain⟨y,D,h1,h2,h3⟩:=d.kids.kids x c;exact⟨y,D,h1,h2,(f ⟨h3⟩).ex⟩
theorem Ud {w:World}{A B f g:Option Addr}{xs:List NV}{its:List Int}{tb n c m d:Nat}{u v:Value}(h:mq w A B xs its)(i:aC w tb 26 #[.slice f n c,.slice g m d]):mq ((w.setCell ⟨tb,0,none⟩ u).setCell ⟨tb,1,none⟩ v) A B xs its:=by
 refine h.keep (tb:=tb) (by simp) (fun o k q e=>?_) fun b o a=>?_
 ·rw [i.cell o] at e
  match o with
  | 0=>simp at e
  | 1=>simp at e
  | o+2=>simp at e
 ·rw [World.cell?_setCell_other _ _ _ _ (by intro e;injection e with e;exact a e.symm),World.cell?_setCell_other _ _ _ _ (by intro e;injection e with e;exact a e.symm)]
end Go.Proofs.YthepmkjggfijoaaGreatDoor
