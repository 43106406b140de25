/-
  A part of the proof.
-/
import Derived.Test.YthepmkjggfijoaaGreatDoorSA
import Derived.Deep.QuietTactic
import Derived.Test.YthepmkjggfijoaaGreatDoorS21
import Derived.Test.YthepmkjggfijoaaGreatDoorS22
import Derived.Test.YthepmkjggfijoaaGreatDoorS32
import Derived.Test.YthepmkjggfijoaaGreatDoorS30
import Derived.Test.YthepmkjggfijoaaGreatDoorS04
import Derived.Test.YthepmkjggfijoaaGreatDoorJ11
set_option linter.all false
set_option maxRecDepth 100000
set_option maxHeartbeats 4000000
namespace Go.Proofs.YthepmkjggfijoaaGreatDoor
open Go.RowKit Mist
attribute [local go_sem] aj aH aS aB ak
theorem R3 {w:World}{A:Option Addr}{ks:List Int}(h:IntsIn w A ks):Reads w w.heap.size 1 A ks.length (intCells ks):=by
 refine⟨by rw [rG,Nat.mul_one],fun h0=>?_⟩
 obtain⟨b,o,rfl,f,d⟩:=h.ex h0
 refine⟨⟨b,o,none⟩,rfl,f,fun j u a=>?_⟩
 rw [sj];have c:j < ks.length:=by have:=(aaE.1 a).1;rwa [rG] at this
 have e:u=.int .i64 ks[j]:=by
  have h9:(intCells ks)[j]? = some (.int .i64 ks[j]):=by simp [intCells,c]
  rw [h9] at a;exact (aaP a).symm
 rw [e];exact d j _ (aaD c)
structure RowsIn (g:Nat) (w:World) (nv iv:Value) (xs:List NV) (its:List Int):Prop where
 own:w.ownsRow g 50 5 nv xs.length (iO xs)
 kids:∀ x ∈ xs,w.ownsRow g 3 1 x.2 x.1.kids.length (intCells x.1.kids)
 row:w.ownsRow g 3 1 iv its.length (intCells its)
 far:∀ x ∈ xs,x.2.ownBlock=none∨x.2.ownBlock ≠ iv.ownBlock
theorem RowsIn.below {g:Nat}{w b:World}{nv iv:Value}{xs:List NV}{its:List Int}(h:RowsIn g w nv iv xs its)(a:Below w.heap.size w b):RowsIn g b nv iv xs its :=
 ⟨own_below h.own a,fun x c=>own_below (h.kids x c) a,own_below h.row a,h.far⟩
theorem RowsIn.add {g:Nat}{w w1:World}{tb:Nat}{nv eO iv:Value}{xs:List NV}{its:List Int}{x:NV}(h:RowsIn g w nv iv xs its)(f:aC w tb 26 #[nv,iv])(d:w.grownBy w1 nv.ownBlock)(a:w1.ownsRow g 50 5 eO (xs.length+1) (iO xs ++ fC x))(b:w.ownsRow g 3 1 x.2 x.1.kids.length (intCells x.1.kids))(i:x.2.ownBlock=none∨x.2.ownBlock ≠ iv.ownBlock) :
  RowsIn g (w1.setCell ⟨tb,0,none⟩ eO) eO iv (xs ++ [x]) its∧aC (w1.setCell ⟨tb,0,none⟩ eO) tb 26 #[eO,iv]:=by
 have c:=f.grown d (fun e=>aT h.own f (by decide) e.symm)
 have keep:∀ {v:Value} {n:Nat} {cs:List Value},w.ownsRow g 3 1 v n cs→(w1.setCell ⟨tb,0,none⟩ eO).ownsRow g 3 1 v n cs:=fun b =>
  ownsRow_setCell_other (b.kept d (iE b h.own (by decide))) (aT (b.kept d (iE b h.own (by decide))) c (by decide)) _
 refine⟨⟨?_,fun y hy=>?_,keep h.row,fun y hy=>?_⟩,?_⟩
 ·rw [aaO,rJ];have e:iO [x]=fC x:=by simp [iO]
  rw [e];exact ownsRow_setCell_other a (aT a c (by decide)) _
 ·rcases List.mem_append.1 hy with hy | hy
  ·exact keep (h.kids y hy)
  ·rw [List.mem_singleton.1 hy];exact keep b
 ·rcases List.mem_append.1 hy with hy | hy
  ·exact h.far y hy
  ·rw [List.mem_singleton.1 hy];exact i
 ·have:=c.d_ 0 eO;simpa using this
theorem RowsIn.tY {g:Nat}{w:World}{nv iv:Value}{xs:List NV}{its:List Int}{c i:Nat}{cs:Array Value}{u:Value}(h:RowsIn g w nv iv xs its)(a:aC w c 26 cs):RowsIn g (w.setCell ⟨c,i,none⟩ u) nv iv xs its :=
 ⟨ownsRow_setCell_other h.own (aT h.own a (by decide)) u,fun x b=>ownsRow_setCell_other (h.kids x b) (aT (h.kids x b) a (by decide)) u,ownsRow_setCell_other h.row (aT h.row a (by decide)) u,h.far⟩
theorem Uh {w i:World}{v iv:Value}{b a e c s g n f:Nat}{xs ys:List Value}(h:i.ownsRow b e s v n xs)(j:w.heap.size≤b)(hi:w.ownsRow a c g iv f ys):v.ownBlock=none∨v.ownBlock ≠ iv.ownBlock:=by
 rcases h9:v.ownBlock with _ | q
 ·exact .inl rfl
 ·right
  intro d;have h1:=(h.lt q h9).1;have h2:=(hi.lt q d.symm).2;omega
theorem own_any (A B:Option Addr)(c d:Nat)(xs:List NV)(its:List Int)(w:World)(hT:mq w A B xs its)(hn:xs.length≤10000)(hm:its.length≤10000)(hr:∀ x ∈ xs,∀ k ∈ x.1.kids,jq≤k∧k≤gq) :
  Calls Tryz.prog 29 #[.agg #[.slice A xs.length c,.slice B its.length d]] w fun e w'=>Below w.heap.size w w'∧∃ nv iv ext,e=.returned (.agg #[nv,iv])∧RowsIn w.heap.size w' nv iv ext its∧aA ext=aA xs:=by
 obtain⟨n,hnn⟩:∃ n,n=xs.length:=⟨_,rfl⟩;obtain⟨m,P⟩:∃ m,m=its.length:=⟨_,rfl⟩;rw [← hnn] at hn ⊢
 rw [← P] at hm ⊢
 have HRD:=O (R3 hT.items);rw [← P] at HRD
 have pF:=O hnn;clear hnn;have U1:=O P;clear P;have HT:=O hT;clear hT;have HR:=O hr;clear hr;obtain⟨i0,hi0,hz0,hz1,hz2⟩:=info_parts rW;obtain⟨j0,hj0,hy0,hy1,hy2⟩:=info_parts gN;go_in
 have h0:=O (((Below.refl w.heap.size w).alloc (aaJ _) (.cells #[.slice A n c,.slice B m d] 26)).alloc (by simp) (.cells #[.slice none 0 0,.slice none 0 0] 26));have h1:=O (h0.o.alloc (by simp;omega) (.cells #[] 3));have HO0:=O (World.ownsRow_made (base:=w.heap.size) (e:=3) (size:=1) ((w.alloc (.cells #[.slice A n c,.slice B m d] 26)).alloc (.cells #[.slice none 0 0,.slice none 0 0] 26)) #[] 0 (by simp;omega) (by simp [maxLen]) rfl);have hmb:m * 8≤140737488355328:=by omega
 have S:=O (HRD.o.below h1.o);go_wp2_with (at_builtin;go_loud (refine Dq _ rfl (.tmp 6) (.tmp 8) 24 rfl w.heap.size 3 j0 _ 1 8 Tryz.underlying24 hj0 hy0 hy1 hy2 rfl (by decide) (.slice (some ⟨w.heap.size+1+1,0,none⟩) 0 0) 0 [] rfl (by simpa using HO0.o) w.heap.size B m d (intCells its) rfl S.o (by intro u hu;obtain⟨z,_,rfl⟩:=List.mem_map.1 hu;rfl) (by simp only [maxLen];omega) (by omega) (by simp;omega) ?_);intro v2 w2 j J _;rw [Nat.zero_add] at j;obtain⟨F,G,rfl⟩:=dh j)
 have HG2:=O J;have HOW:=O (show w2.ownsRow w.heap.size 3 1 (.slice F m G) m (intCells its) from by simpa using j);have HL2:=O (show Below w.heap.size w w2 from h1.o.grown J (by simp;omega) (fun k hk=>by have:=(HO0.o.lt k (by simpa using hk)).1;omega));have hBt:=(aC.new w 26 #[.slice A n c,.slice B m d]).alloc (.cells #[.slice none 0 0,.slice none 0 0] 26);have HB2:=O ((hBt.alloc (.cells #[] 3)).grown J (fun e=>by first|(simp [Value.ownBlock] at e;done)|(simp [Value.ownBlock] at e;omega)));have hBz:=dL (W:=w.alloc (.cells #[.slice A n c,.slice B m d] 26)) (T:=26) (cs:=#[.slice none 0 0,.slice none 0 0]) (k:=w.heap.size+1) (by simp);have HZ2:=O ((hBz.alloc (.cells #[] 3)).grown J (fun e=>by first|(simp [Value.ownBlock] at e;done)|(simp [Value.ownBlock] at e;omega)));have K:=HL2.o.size;have htb3:w.heap.size+1 < w2.heap.size:=HZ2.o.lt;clear j J HG2 hBt hBz HO0 h0 h1 HRD S hmb
 have qm:=O (show RowsIn w.heap.size (w2.alloc (.cells #[.slice none 0 0,.slice F m G] 26)) (.slice none 0 0) (.slice F m G) [] its from
  ⟨World.ownsRow_nil _ _ _ _,(fun x E=>by cases E),by rw [← U1.o];exact HOW.o.alloc _,(fun x E=>by cases E)⟩)
 have M:=O (aC.new w2 26 #[.slice none 0 0,.slice F m G]);have X:=O (HB2.o.alloc (.cells #[.slice none 0 0,.slice F m G] 26));have HZ0:=O (HZ2.o.alloc (.cells #[.slice none 0 0,.slice F m G] 26));have eH:=O (ah HL2.o K (o:=.cells #[.slice none 0 0,.slice F m G] 26));clear HB2 HZ2 HL2 HOW
 generalize w2.alloc (.cells #[.slice none 0 0,.slice F m G] 26)=w4 at qm M X HZ0 eH ⊢
 generalize w2.heap.size=tb at M K htb3 ⊢
 go_loopw [4] (fun i wr=>∃ (k:Nat) (nv:Value) (ext:List NV),k≤n∧i=.int .i64 k∧ext.length=k∧Hid (aA ext=(aA xs).take k)∧Hid (RowsIn w.heap.size wr nv (.slice F m G) ext its)∧Hid (aC wr tb 26 #[nv,.slice F m G])∧Hid (aC wr w.heap.size 26 #[.slice A n c,.slice B m d])∧Hid (aC wr (w.heap.size+1) 26 #[.slice none 0 0,.slice none 0 0])∧Hid (Below w.heap.size w wr)) (fun i _=>n - (intOf i).toNat)
 case atStart=>exact⟨0,_,[],aaL _,rfl,rfl,O rfl,qm,M,X,HZ0,eH⟩
 case round =>
  clear qm M X HZ0 eH;obtain⟨l,rfl⟩:∃ l:World,l=wr:=⟨_,rfl⟩;obtain⟨k,nv,ext,hk,rfl,D,Li,C,Q,HB,N,L⟩:=hrel;have t0:=HB.o.cell 0;have t1:=HB.o.cell 1;by_cases hkn:k < n
  ·have i3:decide (k < n)=true:=aaU hkn;obtain⟨An,cn,rfl⟩:=dh C.o.own;rw [D] at Q
   have TD:=O D;have u0:=Q.o.cell 0;have u1:=Q.o.cell 1;have uf:=Q.o.frozen 0;obtain⟨b,o,rfl,H⟩:=HT.o.nodes (by rw [← pF.o];omega);obtain⟨x,E⟩:∃ x,xs[k]? = some x:=jD (by rw [← pF.o];exact hkn);have c0:=(L.o.cell (p:=⟨b,o+k * 5,none⟩) H.lt).trans (H.c0 k x E);have c1:=(L.o.cell (p:=⟨b,o+k * 5+1,none⟩) H.lt).trans (H.c1 k x E);have c2:=(L.o.cell (p:=⟨b,o+k * 5+2,none⟩) H.lt).trans (H.c2 k x E);have c3:=(L.o.cell (p:=⟨b,o+k * 5+3,none⟩) H.lt).trans (H.c3 k x E);have c4:=(L.o.cell (p:=⟨b,o+k * 5+4,none⟩) H.lt).trans (H.c4 k x E);obtain⟨Ka,ca,hxe,hxl,hxk⟩:=H.kid E;rw [hxe] at c3
   have tK:=O (hxk.below L.o);have HXR:=O (HR.o x (aaM E));have Rh:=O (gP E);clear H E hxe hxk D;obtain⟨⟨kd,tx,t,ks,at_⟩,xv⟩:=x;simp only at c0 c1 c2 c3 c4 hxl tK HXR Rh
   obtain⟨f,hnk⟩:∃ f,f=ks.length:=⟨_,rfl⟩;rw [← hnk] at c3 hxl
   have nu:=O hnk;clear hnk;have z0:(0:Int)≤(k:Int):=by omega
   have z1:(k:Int) < (n:Int):=by omega
   have hlo:=L.o.size;have htl:=Q.o.lt;have htg:w.heap.size≤tb:=K;have oV:=O ((aC.new l 50 #[.int .u8 kd,.string (aM tx),.int .i64 t,.slice Ka f ca,.int .i64 at_]).alloc (.cells #[] 3));have n3:=oV.o.cell 3;have hbB:Below l.heap.size l ((l.alloc (.cells #[.int .u8 kd,.string (aM tx),.int .i64 t,.slice Ka f ca,.int .i64 at_] 50)).alloc (.cells #[] 3)):=ah (ah (Below.refl _ _) (aaJ _)) (by simp);have HBB:=O hbB;have HO9:=O (World.ownsRow_made (base:=l.heap.size) (e:=3) (size:=1) (l.alloc (.cells #[.int .u8 kd,.string (aM tx),.int .i64 t,.slice Ka f ca,.int .i64 at_] 50)) #[] 0 (by simp) (by simp [maxLen]) rfl);have HRK:=R3 tK.o;rw [← nu.o] at HRK
   have U:=O (HRK.below hbB);clear HRK hbB;go_upto_region 7 with (at_builtin;go_loud (refine Dq _ rfl (.tmp 23) (.tmp 25) 24 rfl l.heap.size 3 j0 _ 1 8 Tryz.underlying24 hj0 hy0 hy1 hy2 rfl (by decide) (.slice (some ⟨l.heap.size+1,0,none⟩) 0 0) 0 [] rfl (by simpa using HO9.o) l.heap.size Ka f ca (intCells ks) rfl U.o (by intro u hu;obtain⟨z,_,rfl⟩:=List.mem_map.1 hu;rfl) (by simp only [maxLen];omega) (by omega) (by simp;omega) ?_);intro v6 w6 a V _;rw [Nat.zero_add] at a;obtain⟨g,h,rfl⟩:=dh a;have I:=O (show w6.ownsRow l.heap.size 3 1 (.slice g f h) f (intCells ks) from by simpa using a);have F6:=O (oV.o.grown V (fun e=>by first|(simp [Value.ownBlock] at e;done)|(simp [Value.ownBlock] at e;omega)));have dA:=O (HBB.o.grown V (by simp;omega) (fun q hq=>by first|(simp [Value.ownBlock] at hq;done)|(simp [Value.ownBlock] at hq;omega)));have m3:=F6.o.frozen 3;have k3:=F6.o.cell 3;clear a V)
   have y:=O (show aC (w6.setCell ⟨l.heap.size,3,none⟩ (.slice g f h)) l.heap.size 50 #[.int .u8 kd,.string (aM tx),.int .i64 t,.slice g f h,.int .i64 at_] from by have:=F6.o.d_ 3 (.slice g f h);simpa using this);have R:=O (dx (b:=l.heap.size) (i:=3) (u:=.slice g f h) dA.o (aaJ _));have Z:=O (show (w6.setCell ⟨l.heap.size,3,none⟩ (.slice g f h)).ownsRow l.heap.size 3 1 (.slice g f h) f (intCells ks) from ownsRow_setCell_other I.o (aT I.o F6.o (by decide)) _);clear F6 dA I oV HBB HO9 U m3 k3 n3
   generalize w6.setCell ⟨l.heap.size,3,none⟩ (.slice g f h)=w5 at y R Z ⊢
   have AU:=O (C.o.below R.o);have zO:=O (Q.o.below R.o Q.o.lt);have HK5:=O (sS Z.o (show w.heap.size≤_ by omega));have HFA:=O (Uh Z.o (aaJ _) C.o.row);have r:=O (show w5.ownsRow w.heap.size 50 5 (.slice An k cn) k (iO ext) from by have h9:=AU.o.own;rw [TD.o] at h9;exact h9);have x0:=y.o.cell 0;have x1:=y.o.cell 1;have x2:=y.o.cell 2;have x3:=y.o.cell 3;have x4:=y.o.cell 4;clear u0 u1 uf c0 c1 c2 c3 c4;have u5:=zO.o.cell 0;have tl5:=zO.o.lt;have f5:=zO.o.frozen 0;have hs5:=R.o.size;go_wp2_with (at_builtin;go_loud (refine wpList_append_lies _ rfl (.tmp 29) (.tmp 31) 23 rfl w.heap.size 50 i0 _ 5 64 Tryz.underlying23 hi0 hz0 hz1 hz2 rfl (by decide) _ k (iO ext) rfl (r.o.alloc _) ⟨w5.heap.size,0,none⟩ 1 1 (fC (⟨kd,tx,t,ks,at_⟩,.slice g f h)) rfl rfl (iP _ _ _) (by intro u hu;simp [fC] at hu;rcases hu with rfl | rfl | rfl | rfl | rfl <;> rfl) (by omega) (by simp only [maxLen];omega) (by omega) (by simp;omega) _ rfl ?_);intro gg cap w6 a V xC z8;have kk:=(zO.o.alloc (.cells #[.int .u8 kd,.string (aM tx),.int .i64 t,.slice g f h,.int .i64 at_] 50)).grown V (fun e=>aT r.o zO.o (by decide) e.symm);have c3':=kk.cell 0;have f3':=kk.frozen 0;clear kk;have HRA:=AU.o.below (ah (Below.refl w5.heap.size w5) (aaJ _) (o:=.cells #[.int .u8 kd,.string (aM tx),.int .i64 t,.slice g f h,.int .i64 at_] 50));have Lx:=zO.o.alloc (.cells #[.int .u8 kd,.string (aM tx),.int .i64 t,.slice g f h,.int .i64 at_] 50);obtain⟨HRX,HTX⟩:=RowsIn.add (x:=(⟨kd,tx,t,ks,at_⟩,.slice g f h)) (eO:=.slice (some ⟨gg,0,none⟩) (k+1) cap) HRA (by rw [TD.o];exact Lx) (by rw [TD.o];exact V) (by rw [TD.o];exact a) (by show World.ownsRow _ _ _ 1 (.slice g f h) ks.length (intCells ks);rw [← nu.o];exact HK5.o.alloc _) HFA.o;have YE:=O HRX;have YH:=O HTX;have Y:=O V;clear HRX HTX HRA Lx V a xC)
   have cu:=HB.o.below R.o HB.o.lt;have HZ5:=N.o.below R.o N.o.lt;have HBX:=O (((cu.alloc (.cells #[.int .u8 kd,.string (aM tx),.int .i64 t,.slice g f h,.int .i64 at_] 50)).grown Y.o (fun e=>aT r.o cu (by decide) e.symm)).far (p:=⟨tb,0,none⟩) (by show w.heap.size ≠ tb;omega) (.slice (some ⟨gg,0,none⟩) (k+1) cap));have HZX:=O (((HZ5.alloc (.cells #[.int .u8 kd,.string (aM tx),.int .i64 t,.slice g f h,.int .i64 at_] 50)).grown Y.o (fun e=>aT r.o HZ5 (by decide) e.symm)).far (p:=⟨tb,0,none⟩) (by show w.heap.size+1 ≠ tb;omega) (.slice (some ⟨gg,0,none⟩) (k+1) cap));have hl5:=(L.o.trans (R.o.mono hlo)).size;have Nt:=O (dx (b:=tb) (i:=0) (u:=.slice (some ⟨gg,0,none⟩) (k+1) cap) ((ah (L.o.trans (R.o.mono hlo)) hl5 (o:=.cells #[.int .u8 kd,.string (aM tx),.int .i64 t,.slice g f h,.int .i64 at_] 50)).grown Y.o (by simp;omega) (fun q hq=>by have:=(r.o.lt q hq).1;omega)) htg)
   have Lj:=O (show aA (ext ++ [(⟨kd,tx,t,ks,at_⟩,.slice g f h)])=(aA xs).take (k+1) by
    rw [nY,Li.o,List.take_add_one,Rh.o];rfl)
   exact⟨⟨k+1,_,ext ++ [(⟨kd,tx,t,ks,at_⟩,.slice g f h)],by omega,by go_num,by rw [aaO,TD.o];rfl,Lj,YE,YH,HBX,HZX,Nt⟩,by simp [intOf];omega⟩
  ·have i3:decide (k < n)=false:=aaV hkn;have HXE:=O (show aA ext=aA xs by rw [Li.o,aaN (by rw [aD,← pF.o];omega)]);have u0:=Q.o.cell 0;have u1:=Q.o.cell 1;obtain⟨An,cn,rfl⟩:=dh C.o.own;rw [D] at u0 C
   have v0:=N.o.cell 0;have v1:=N.o.cell 1;have g0:=N.o.frozen 0;have g1:=N.o.frozen 1;have TD:=O D;clear D;go_wp2_with fail;have Ez:=(N.o.d_ 0 (.slice An k cn)).d_ 1 (.slice F m G);have r0:=Ez.cell 0;have r1:=Ez.cell 1;refine bodyPost_ret (v:=.agg #[.slice An k cn,.slice F m G]) (by simp [results,Tryz.f29,go_sem,r0,r1]) rfl ?_;exact⟨dx (dx L.o (by omega)) (by omega),_,_,ext,rfl,(C.o.tY N.o).tY (N.o.d_ 0 _),HXE.o⟩
end Go.Proofs.YthepmkjggfijoaaGreatDoor
namespace Go.Proofs.YthepmkjggfijoaaGreatDoor
open Go.RowKit Mist
theorem rows_tAtG {g:Nat}{w:World}{A B:Option Addr}{c d:Nat}{xs:List NV}{its:List Int}(h:RowsIn g w (.slice A xs.length c) (.slice B its.length d) xs its)(b:∀ x ∈ xs,x.1.kids.length≤1000000):mq w A B xs its:=by
 refine⟨fun h0=>?_,yI h.row rfl⟩
 obtain⟨a,e,f⟩:=Ee h.own h0 (fun x i=>⟨_,h.kids x i⟩) b;exact⟨a,0,e,f⟩
theorem own_fineT {T:Tr}(F:dX T){W:World}{A B:Option Addr}(c d n m:Nat){xs:List NV}(y:mq W A B xs T.items)(h2:aA xs=T.nodes)(E:T.nodes.length=n)(w:T.items.length=m):Calls Tryz.prog 29 #[.agg #[.slice A n c,.slice B m d]] W fun e t=>Below W.heap.size W t∧∃ f g l q ys,e=.returned (.agg #[.slice f n l,.slice g m q])∧mq t f g ys T.items∧aA ys=T.nodes∧ys.length=n∧n≤l:=by
 have G:=F.few;have hi:=F.itf;have v:xs.length=n:=by rw [← aD,h2,E]
 have h:=own_any A B c d xs T.items W y (by omega) (by omega) (fun x r k D=>by
  obtain⟨i,hi,rfl⟩:=List.getElem_of_mem r
  have:=F.wf i xs[i].1 (by rw [← h2];exact gP (aaD hi)) k D
  unfold jq gq;omega)
 rw [v,w] at h
 refine h.mono ?_;rintro e t ⟨C,nv,iv,ext,rfl,j,a⟩;have b:ext.length=n:=by rw [← aD,a,aD,v]
 obtain⟨f,l,rfl⟩:=dh j.own;obtain⟨g,q,rfl⟩:=dh j.row;have u:=Uv j.own;rw [b,w]
 refine⟨C,f,g,l,q,ext,rfl,rows_tAtG j ?_,by rw [a,h2],b,by omega⟩
 intro x r;refine F.good.kids x.1 ?_;rw [← h2,← a];exact List.mem_map.2 ⟨x,r,rfl⟩
theorem mq.keep {w m:World}{A B:Option Addr}{xs:List NV}{its:List Int}{tb:Nat}(h:mq w A B xs its)(u:w.heap.size≤m.heap.size)(l:∀ (o:Nat) k q,w.cell? ⟨tb,o,none⟩ ≠ some (.int k q))(g:∀ (b o:Nat),b ≠ tb→m.cell? ⟨b,o,none⟩=w.cell? ⟨b,o,none⟩):mq m A B xs its:=by
 have f:∀ {C:Option Addr} {ks:List Int},IntsIn w C ks→IntsIn m C ks:=fun hi=>⟨fun h0=>by
  obtain⟨b,o,e,y,r⟩:=hi.ex h0
  refine⟨b,o,e,aaW y u,fun j k t=>?_⟩
  rw [g b _ (fun n=>l (o+j) _ _ (by rw [← n];exact r j k t))];exact r j k t⟩
 refine⟨fun h0=>?_,f h.items⟩
 obtain⟨b,o,e,d⟩:=h.nodes h0;have a:b ≠ tb:=fun n=>l _ _ _ (by rw [← n];exact d.c0 0 _ (aaD h0))
 refine⟨b,o,e,⟨⟨aaW d.lt u,fun i x c=>(g b _ a).trans (d.c3 i x c),fun x c=>?_⟩,fun i x c=>(g b _ a).trans (d.c0 i x c),fun i x c=>(g b _ a).trans (d.c1 i x c),fun i x c=>(g b _ a).trans (d.c2 i x c),fun i x c=>(g b _ a).trans (d.c4 i x c)⟩⟩
 obtain⟨v,c1,h1,h2,h3⟩:=d.kids.kids x c;exact⟨v,c1,h1,h2,(f ⟨h3⟩).ex⟩
theorem tAt_set2 {w:World}{A B f g:Option Addr}{xs:List NV}{its:List Int}{tb n c m d:Nat}{u v:Value}(h:mq w A B xs its)(i:aC w tb 26 #[.slice f n c,.slice g m d]):mq ((w.setCell ⟨tb,0,none⟩ u).setCell ⟨tb,1,none⟩ v) A B xs its:=by
 refine h.keep (tb:=tb) (by simp) (fun o k q e=>?_) fun b o a=>?_
 ·rw [i.cell o] at e
  match o with
  | 0=>simp at e
  | 1=>simp at e
  | o+2=>simp at e
 ·rw [World.cell?_setCell_other _ _ _ _ (by intro e;injection e with e;exact a e.symm),World.cell?_setCell_other _ _ _ _ (by intro e;injection e with e;exact a e.symm)]
theorem blkT_set2 {w:World}{b:Nat}{x y u v:Value}(h:aC w b 26 #[x,y]):aC ((w.setCell ⟨b,0,none⟩ u).setCell ⟨b,1,none⟩ v) b 26 #[u,v]:=by
 have:=(h.d_ 0 u).d_ 1 v
 simpa using this
theorem blkT_far2 {w:World}{b p:Nat}{cs:Array Value}{u v:Value}(h:aC w b 26 cs)(a:b ≠ p):aC ((w.setCell ⟨p,0,none⟩ u).setCell ⟨p,1,none⟩ v) b 26 cs:=(h.far (p:=⟨p,0,none⟩) a u).far (p:=⟨p,1,none⟩) a v
end Go.Proofs.YthepmkjggfijoaaGreatDoor
namespace Go.Proofs.YthepmkjggfijoaaGreatDoor
open Go.RowKit Mist
attribute [local go_sem] aj aH aS aB ak
end Go.Proofs.YthepmkjggfijoaaGreatDoor
