/-
  A part of the proof.
-/
import Derived.Test.YthepmkjggfijoaaGreatDoorSA
import Derived.Deep.RegionLaw
import Derived.Test.YthepmkjggfijoaaGreatDoorZ04
import Derived.Test.YthepmkjggfijoaaGreatDoorZ06
set_option linter.all false
set_option maxRecDepth 100000
set_option maxHeartbeats 3000000
namespace Go.Proofs.YthepmkjggfijoaaGreatDoor
open Go.RowKit Mist
attribute [local go_sem] aj aH aS aB ak
theorem RowsIn.item {g:Nat}{w w1:World}{tb:Nat}{nv iv AY:Value}{xs:List NV}{its:List Int}{q:Int}(h:RowsIn g w nv iv xs its)(j:aC w tb 26 #[nv,iv])(f:w.grownBy w1 iv.ownBlock)(a:w1.ownsRow g 3 1 AY (its.length+1) (intCells its ++ [.int .i64 q]))(d:AY.ownBlock=iv.ownBlock∨AY.ownBlock=some w.heap.size):RowsIn g (w1.setCell ⟨tb,1,none⟩ AY) nv AY xs (its ++ [q])∧aC (w1.setCell ⟨tb,1,none⟩ AY) tb 26 #[nv,AY]:=by
 have c:=j.grown f (fun e=>aT h.row j (by decide) e.symm);have l:=h.own.kept f (iE h.own h.row (by decide))
 refine⟨⟨ownsRow_setCell_other l (aT l c (by decide)) _,fun y hy=>?_,?_,fun y hy=>?_⟩,?_⟩
 ·have k:=(h.kids y hy).kept f (h.far y hy);exact ownsRow_setCell_other k (aT k c (by decide)) _
 ·rw [aaO,eT];exact ownsRow_setCell_other a (aT a c (by decide)) _
 ·rcases d with e | e
  ·rw [e];exact h.far y hy
  ·rcases h9:y.2.ownBlock with _ | b
   ·exact .inl rfl
   ·right
    rw [e];intro i
    have:=((h.kids y hy).lt b h9).2
    injection i with i
    omega
 ·have:=c.d_ 1 AY;simpa using this
theorem SQ (A B A' B':Option Addr)(c d c' d':Nat)(xs ys:List NV)(its iB:List Int)(w:World)(hT:mq w A B xs its)(hU:mq w A' B' ys iB)(hR:xO (aA xs))(hS:xO (aA ys))(G:xs.length≤10000)(hy:ys.length≤10000)(hi:its.length≤10000)(hj:iB.length≤10000) :
  Calls Tryz.prog 49 #[.agg #[.slice A xs.length c,.slice B its.length d],.agg #[.slice A' ys.length c',.slice B' iB.length d']] w fun e w'=>Below w.heap.size w w' ∧
   ((kS ⟨aA xs, its⟩ ⟨aA ys, iB⟩ ≠ 0 ∧ e = .returned (.tuple #[.agg #[.slice none 0 0, .slice none 0 0], .int .i64 (kS ⟨aA xs, its⟩ ⟨aA ys, iB⟩)])) ∨
    (kS ⟨aA xs,its⟩ ⟨aA ys,iB⟩=0∧∃ nv iv ext,e=.returned (.tuple #[.agg #[nv,iv],.int .i64 0])∧RowsIn w.heap.size w' nv iv ext (its ++ iB.map (·+(xs.length:Int)))∧aA ext=aA xs ++ (aA ys).map (lI (xs.length:Int)))):=by
 have hl:∀ x ∈ xs,x.1.text.length≤100000000:=fun x G=>(hR x.1 (List.mem_map.2 ⟨x,G,rfl⟩)).text
 have d3:∀ x ∈ ys,x.1.text.length≤100000000:=fun x G=>(hS x.1 (List.mem_map.2 ⟨x,G,rfl⟩)).text
 have d0:∀ x ∈ xs,∀ k ∈ x.1.kids,jq≤k∧k≤gq:=fun x G=>(hR x.1 (List.mem_map.2 ⟨x,G,rfl⟩)).kids
 have Lf:=O fun W (hb:Below w.heap.size w W)=>pO A B c d xs its W (hT.below hb) G hi hl
 have Lg:=O fun W (hb:Below w.heap.size w W)=>pO A' B' c' d' ys iB W (hU.below hb) hy hj d3
 have oK:=O fun W (hb:Below w.heap.size w W)=>BS A B c d xs its W (hT.below hb) (by omega) (by omega) d0
 have jG:=rP ⟨aA xs,its⟩ (fun n hn=>(hR n hn).num);have jH:=rP ⟨aA ys,iB⟩ (fun n hn=>(hS n hn).num);rw [← jG] at Lf
 rw [← jH] at Lg
 clear jG jH;obtain⟨T,ni⟩:∃ T:Tr,T=⟨aA xs,its⟩:=⟨_,rfl⟩;obtain⟨U,Jk⟩:∃ U:Tr,U=⟨aA ys,iB⟩:=⟨_,rfl⟩;have c6:=O (show U.nodes=aA ys by rw [Jk]);have iY:=O (show kS T U=if two T U ≠ 0 then two T U else if kP (xs.length+ys.length) (its.length+iB.length)=true then 5 else 0 by unfold kS;rw [ni,Jk];simp only [aD]);rw [← ni] at Lf ⊢
 rw [← Jk] at Lg ⊢
 have nP:=O (show U.items=iB by rw [Jk]);have mh:=O (fun (h:dN U=0) (k:Nat) (C:Int) (hk:U.items[k]? = some C)=>Um (iF h).2.1 hk);rw [nP.o,c6.o,aD] at mh
 have nV:=O (fun (h:dN U=0)=>DT h);rw [c6.o] at nV
 obtain⟨p,F⟩:∃ p,p=dN T:=⟨_,rfl⟩;obtain⟨q,X⟩:∃ q,q=dN U:=⟨_,rfl⟩;have bX:=O (show two T U=if p ≠ 0 then p else q by unfold two;rw [F,X]);rw [← F] at Lf
 rw [← X] at Lg nV mh
 have HU:=O hU;clear F X ni Jk hT hU hR hS hl d3 d0;obtain⟨n,hn⟩:∃ n,n=xs.length:=⟨_,rfl⟩;obtain⟨n',a2⟩:∃ n,n=ys.length:=⟨_,rfl⟩;obtain⟨m,hm⟩:∃ n,n=its.length:=⟨_,rfl⟩;obtain⟨m',a1⟩:∃ n,n=iB.length:=⟨_,rfl⟩;rw [← hn,← hm] at Lf oK
 rw [← a2,← a1] at Lg
 rw [← hn,← a2,← hm,← a1] at iY
 rw [← hn] at G
 rw [← a2] at hy
 rw [← hm] at hi
 rw [← a1] at hj
 rw [← hn,← a2,← hm,← a1];have HN:=O hn;clear hn;have Nv:=O a2;clear a2;have HM:=O hm;clear hm;have dZ:=O a1;clear a1;have Q:=O (((aC.new w 26 #[.slice A n c,.slice B m d]).alloc (.cells #[.slice A' n' c',.slice B' m' d'] 26)).alloc (.cells #[.slice none 0 0,.slice none 0 0] 26));have QJ:=O ((dL (W:=w.alloc (.cells #[.slice A n c,.slice B m d] 26)) (T:=26) (cs:=#[.slice A' n' c',.slice B' m' d']) (k:=w.heap.size+1) (by simp)).alloc (.cells #[.slice none 0 0,.slice none 0 0] 26));have R:=O (dL (W:=(w.alloc (.cells #[.slice A n c,.slice B m d] 26)).alloc (.cells #[.slice A' n' c',.slice B' m' d'] 26)) (T:=26) (cs:=#[.slice none 0 0,.slice none 0 0]) (k:=w.heap.size+1+1) (by simp));have eH:=O (ah (ah (ah (Below.refl w.heap.size w) (aaJ _) (o:=.cells #[.slice A n c,.slice B m d] 26)) (by simp) (o:=.cells #[.slice A' n' c',.slice B' m' d'] 26)) (by simp;omega) (o:=.cells #[.slice none 0 0,.slice none 0 0] 26));go_in
 go_wp2_with fail;refine (Lf.o _ eH.o).mono ?_;rintro e w1⟨rfl,a6⟩;have P:=O (Q.o.below a6 Q.o.lt);have H:=O (QJ.o.below a6 QJ.o.lt);have l:=O (R.o.below a6 R.o.lt);have g:=O (eH.o.trans (a6.mono eH.o.size));clear a6 Q QJ R eH Lf;have u0:=H.o.cell 0;have u1:=H.o.cell 1;have v0:=l.o.cell 0;have v1:=l.o.cell 1;have g0:=l.o.frozen 0;have g1:=l.o.frozen 1;by_cases F:p=0
 case neg =>
  have e1:(p != 0)=true:=by simpa using F
  have HX:=O (show kS T U=p by rw [iY.o,bX.o,if_pos F,if_pos F]);have HP:=O F;clear F;go_wp2_with fail;have Z:=(l.o.d_ 0 (.slice none 0 0)).d_ 1 (.slice none 0 0);have r0:=Z.cell 0;have r1:=Z.cell 1;refine bodyPost_ret (v:=.tuple #[.agg #[.slice none 0 0,.slice none 0 0],.int .i64 p]) (by simp [results,Tryz.f49,go_sem,r0,r1]) rfl ?_;exact⟨dx (dx g.o (by omega)) (by omega),.inl ⟨by rw [HX.o];exact HP.o,by rw [HX.o]⟩⟩
 subst F;have Va:=O (show two T U=q by rw [bX.o,if_neg (by simp)]);go_wp2_with fail;refine (Lg.o _ g.o).mono ?_;rintro e w2⟨rfl,a0⟩;have a3:=O (P.o.below a0 P.o.lt);have Bo:=O (H.o.below a0 H.o.lt);have y:=O (l.o.below a0 l.o.lt);have I:=O (g.o.trans (a0.mono g.o.size));clear a0 P H l g Lg u0 u1 v0 v1 g0 g1;by_cases X:q=0
 case neg =>
  have v0:=y.o.cell 0;have v1:=y.o.cell 1;have g0:=y.o.frozen 0;have g1:=y.o.frozen 1;have e1:(q != 0)=true:=by simpa using X
  have HX:=O (show kS T U=q by rw [iY.o,Va.o,if_pos X]);have HP:=O X;clear X;go_wp2_with fail;have Z:=(y.o.d_ 0 (.slice none 0 0)).d_ 1 (.slice none 0 0);have r0:=Z.cell 0;have r1:=Z.cell 1;refine bodyPost_ret (v:=.tuple #[.agg #[.slice none 0 0,.slice none 0 0],.int .i64 q]) (by simp [results,Tryz.f49,go_sem,r0,r1]) rfl ?_;exact⟨dx (dx I.o (by omega)) (by omega),.inl ⟨by rw [HX.o];exact HP.o,by rw [HX.o]⟩⟩
 subst X;have nX:=O (nV.o rfl);have wC:=O (mh.o rfl);clear mh;have cK:=O (show kS T U=if kP (n+n') (m+m')=true then 5 else 0 by rw [iY.o,Va.o,if_neg (by simp)]);have t0:=a3.o.cell 0;have t1:=a3.o.cell 1;clear iY bX Va nV;go_wp2_with fail;refine (oK.o _ I.o).mono ?_;rintro e w3⟨V,nv,iv,ext,rfl,Oz,b7⟩;have D:ext.length=n:=by have h9:=congrArg List.length b7;rw [aD,aD] at h9;rw [h9,HN.o]
 obtain⟨L,S,rfl⟩:=dh Oz.own;obtain⟨Bn,dn,rfl⟩:=dh Oz.row;rw [D,← HM.o] at Oz
 have qm:=O (show RowsIn w.heap.size (w3.alloc (.cells #[.slice L n S,.slice Bn m dn] 26)) (.slice L n S) (.slice Bn m dn) ext its from (Oz.up I.o.size).below (ah (Below.refl _ _) (aaJ _)));have b1:=O (aC.new w3 26 #[.slice L n S,.slice Bn m dn]);have Q:=O ((a3.o.below V a3.o.lt).alloc (.cells #[.slice L n S,.slice Bn m dn] 26));have QJ:=O ((Bo.o.below V Bo.o.lt).alloc (.cells #[.slice L n S,.slice Bn m dn] 26));have R:=O ((y.o.below V y.o.lt).alloc (.cells #[.slice L n S,.slice Bn m dn] 26));have d4:=(I.o.trans (V.mono I.o.size)).size;have eH:=O (ah (I.o.trans (V.mono I.o.size)) d4 (o:=.cells #[.slice L n S,.slice Bn m dn] 26));have f1:w.heap.size+1+1 < w3.heap.size:=(y.o.below V y.o.lt).lt;have gL:=O b7;rw [← HM.o,D];clear Oz b7 V a3 Bo y I t0 t1 oK;obtain⟨i0,e6,f6,f7,f8⟩:=info_parts rW;obtain⟨j0,e7,f2,f3,f4⟩:=info_parts gN;go_wp2_with fail
 generalize w3.alloc (.cells #[.slice L n S,.slice Bn m dn] 26)=w4 at qm b1 Q QJ R eH ⊢
 generalize w3.heap.size=K at b1 f1 d4 ⊢
 go_loopw [9] (fun i wr=>∃ (k:Nat) (nv:Value) (ext:List NV),k≤n'∧i=.int .i64 k∧ext.length=n+k∧Hid (aA ext=aA xs ++ ((aA ys).take k).map (lI (n:Int)))∧Hid (RowsIn w.heap.size wr nv (.slice Bn m dn) ext its)∧Hid (aC wr K 26 #[nv,.slice Bn m dn])∧Hid (aC wr w.heap.size 26 #[.slice A n c,.slice B m d])∧Hid (aC wr (w.heap.size+1) 26 #[.slice A' n' c',.slice B' m' d'])∧Hid (aC wr (w.heap.size+1+1) 26 #[.slice none 0 0,.slice none 0 0])∧Hid (Below w.heap.size w wr)) (fun i _=>n' - (intOf i).toNat)
 case atStart=>exact⟨0,_,ext,aaL _,rfl,D,O (by rw [gL.o];simp),qm,b1,Q,QJ,R,eH⟩
 case round =>
  clear qm b1 Q QJ R eH gL D;obtain⟨J,rfl⟩:∃ J:World,J=wr:=⟨_,rfl⟩;obtain⟨k,nv,ext,hk,rfl,D,Li,f,r,P,H,l,g⟩:=hrel;have t0:=P.o.cell 0;have t1:=P.o.cell 1;have s0:=H.o.cell 0;have s1:=H.o.cell 1;obtain⟨L,S,rfl⟩:=dh f.o.own;rw [D] at r
  have TD:=O D;have u0:=r.o.cell 0;have u1:=r.o.cell 1;have uf:=r.o.frozen 0;by_cases c9:k < n'
  ·have i3:decide (k < n')=true:=aaU c9;obtain⟨b,o,rfl,yc⟩:=HU.o.nodes (by rw [← Nv.o];omega);obtain⟨x,G⟩:∃ x,ys[k]? = some x:=jD (by rw [← Nv.o];omega);have c0:=(g.o.cell (p:=⟨b,o+k * 5,none⟩) yc.lt).trans (yc.c0 _ x G);have c1:=(g.o.cell (p:=⟨b,o+k * 5+1,none⟩) yc.lt).trans (yc.c1 _ x G);have c2:=(g.o.cell (p:=⟨b,o+k * 5+2,none⟩) yc.lt).trans (yc.c2 _ x G);have c3:=(g.o.cell (p:=⟨b,o+k * 5+3,none⟩) yc.lt).trans (yc.c3 _ x G);have c4:=(g.o.cell (p:=⟨b,o+k * 5+4,none⟩) yc.lt).trans (yc.c4 _ x G);obtain⟨Ka,ca,d6,c5,d7⟩:=yc.kid G;rw [d6] at c3
   have tK:=O (d7.below g.o);have kG:=O (nX.o _ x.1 (gP G));have Rh:=O (gP G);clear yc G d6 d7 D;obtain⟨⟨kd,tx,nn,ks,at_⟩,xv⟩:=x;simp only at c0 c1 c2 c3 c4 c5 tK kG Rh
   obtain⟨Y,b9⟩:∃ Y,Y=ks.length:=⟨_,rfl⟩;rw [← b9] at c3 c5
   have nu:=O b9;clear b9;obtain⟨p,F⟩:∃ p,p=n+k:=⟨_,rfl⟩;rw [← F] at r TD u0
   have e9:p≤20000:=by omega
   have b6:=O F;clear F;have z0:(0:Int)≤(k:Int):=by omega
   have z1:(k:Int) < (n':Int):=by omega
   have qJ:=O (show IntsIn J.drew Ka ks from tK.o.below (Below.drew (Below.refl _ _)));have a8:=g.o.size;have f0:=r.o.lt;go_wp2_with fail
   go_region_law ((first
    | (guard_target =~ ((if Region.wanted _ _=true then _ else _:Prop));refine step_append_lies _ (by rfl) _ _ _ (by rfl) w.heap.size 50 i0 _ 5 64 Tryz.underlying23 e6 f6 f7 f8 rfl (by omega) _ p (iO ext) (by rfl) (E.o.alloc _) ⟨w5.heap.size,0,none⟩ 1 1 (fC (⟨kd,tx,nn,ks.map (·+(n:Int)),at_⟩,.slice Ak Y ck)) (by rfl) (by rfl) (iP _ _ _) (by intro u hu;simp [fC] at hu;rcases hu with rfl | rfl | rfl | rfl | rfl <;> rfl) (by omega) (by simp only [maxLen];omega) (by omega) (by simp;omega) (w5.heap.size+1) (by simp) ?_;intro gg a5 w6 b0 vN xC z8;have kk:=(zO.o.alloc (.cells #[.int .u8 kd,.string (aM tx),.int .i64 nn,.slice Ak Y ck,.int .i64 at_] 50)).grown vN (fun e=>aT E.o zO.o (by decide) e.symm);have d8:=kk.cell 0;have e4:=kk.frozen 0;clear kk)
    | (go_simp;go_at_call 60;go_loud (refine (Kw kd tx nn at_ (n:Int) Ka ca Y ks _ nu.o qJ.o c5 (fun q X=>by have h9:=kG.o q X;omega)).mono ?_;rintro e w5⟨c7,kv,rfl,b4⟩;obtain⟨Ak,ck,rfl⟩:=dh b4;have EZ:=O ((Below.drew (Below.refl J.heap.size J)).trans (c7.mono (aaJ _)));have AU:=O (f.o.below EZ.o);have zO:=O (r.o.below EZ.o r.o.lt);have pU:=O (sS b4 (show w.heap.size≤_ by first|(simp;done)|(simp;omega)));have oO:=O (Uh b4 (show J.heap.size≤_ by first|(simp;done)|(simp;omega)) f.o.row);have E:=O (show w5.ownsRow w.heap.size 50 5 (.slice L p S) p (iO ext) from by have h9:=AU.o.own;rw [TD.o] at h9;exact h9);have u5:=zO.o.cell 0;have xU:=zO.o.lt;have f5:=zO.o.frozen 0;have g4:=EZ.o.size;clear c7 b4))))
   all_goals
    have jR:=AU.o.below (ah (Below.refl w5.heap.size w5) (aaJ _) (o:=(.cells #[.int .u8 kd,.string (aM tx),.int .i64 nn,.slice Ak Y ck,.int .i64 at_] 50)));have Lx:=zO.o.alloc (.cells #[.int .u8 kd,.string (aM tx),.int .i64 nn,.slice Ak Y ck,.int .i64 at_] 50);obtain⟨bW,a4⟩:=RowsIn.add (x:=(⟨kd,tx,nn,ks.map (·+(n:Int)),at_⟩,.slice Ak Y ck)) (eO:=.slice (some ⟨gg,0,none⟩) (p+1) a5) jR (by rw [TD.o];exact Lx) (by rw [TD.o];exact vN) (by rw [TD.o];exact b0) (by show World.ownsRow _ _ _ 1 (.slice Ak Y ck) (ks.map (·+(n:Int))).length (intCells (ks.map (·+(n:Int))));rw [List.length_map,← nu.o];exact pU.o.alloc _) oO.o;have cu:=P.o.below EZ.o P.o.lt;have oI:=H.o.below EZ.o H.o.lt;have fK:=l.o.below EZ.o l.o.lt;have iQ:=O (((cu.alloc (.cells #[.int .u8 kd,.string (aM tx),.int .i64 nn,.slice Ak Y ck,.int .i64 at_] 50)).grown vN (fun e=>aT E.o cu (by decide) e.symm)).far (p:=⟨K,0,none⟩) (by show w.heap.size ≠ K;omega) (.slice (some ⟨gg,0,none⟩) (p+1) a5));have oL:=O (((oI.alloc (.cells #[.int .u8 kd,.string (aM tx),.int .i64 nn,.slice Ak Y ck,.int .i64 at_] 50)).grown vN (fun e=>aT E.o oI (by decide) e.symm)).far (p:=⟨K,0,none⟩) (by show w.heap.size+1 ≠ K;omega) (.slice (some ⟨gg,0,none⟩) (p+1) a5));have kM:=O (((fK.alloc (.cells #[.int .u8 kd,.string (aM tx),.int .i64 nn,.slice Ak Y ck,.int .i64 at_] 50)).grown vN (fun e=>aT E.o fK (by decide) e.symm)).far (p:=⟨K,0,none⟩) (by show w.heap.size+1+1 ≠ K;omega) (.slice (some ⟨gg,0,none⟩) (p+1) a5));have e8:=(g.o.trans (EZ.o.mono a8)).size;have Nt:=O (dx (b:=K) (i:=0) (u:=.slice (some ⟨gg,0,none⟩) (p+1) a5) ((ah (g.o.trans (EZ.o.mono a8)) e8 (o:=(.cells #[.int .u8 kd,.string (aM tx),.int .i64 nn,.slice Ak Y ck,.int .i64 at_] 50))).grown vN (by simp;omega) (fun q X=>by have:=(E.o.lt q X).1;omega)) (by omega))
    have Lj:=O (show aA (ext ++ [(⟨kd,tx,nn,ks.map (·+(n:Int)),at_⟩,.slice Ak Y ck)])=aA xs ++ ((aA ys).take (k+1)).map (lI (n:Int)) by
     rw [nY,Li.o,List.take_add_one,Rh.o,List.map_append,List.append_assoc];rfl)
    have YE:=O bW;have YH:=O a4;clear bW a4 jR Lx cu oI fK vN b0 xC d8 e4 u5 f5;go_wp2_with fail;exact⟨⟨k+1,_,ext ++ [(⟨kd,tx,nn,ks.map (·+(n:Int)),at_⟩,.slice Ak Y ck)],by omega,by go_num,by rw [aaO,TD.o,b6.o];rfl,Lj,YE,YH,iQ,oL,kM,Nt⟩,by simp [intOf];omega⟩
  ·have i3:decide (k < n')=false:=aaV c9;obtain rfl:k=n':=by omega
   have Yt:=O (show aA ext=aA xs ++ (aA ys).map (lI (n:Int)) by
    have h9:=Li.o
    rwa [aaN (by rw [aD,← Nv.o];exact aaJ _)] at h9)
   rw [D] at f
   obtain⟨N,hN⟩:∃ N,N=n+k:=⟨_,rfl⟩;rw [← hN] at f r cK
   have f9:N≤20000:=by omega
   clear Li D TD u0 u1 uf hN;go_wp2_with fail;go_loopw [10] (fun i wr=>∃ (j:Nat) (iv:Value) (is:List Int),j≤m'∧i=.int .i64 j∧is.length=m+j∧Hid (is=its ++ (iB.take j).map (·+(n:Int)))∧Hid (RowsIn w.heap.size wr (.slice L N S) iv ext is)∧Hid (aC wr K 26 #[.slice L N S,iv])∧Hid (aC wr w.heap.size 26 #[.slice A n c,.slice B m d])∧Hid (aC wr (w.heap.size+1) 26 #[.slice A' k c',.slice B' m' d'])∧Hid (aC wr (w.heap.size+1+1) 26 #[.slice none 0 0,.slice none 0 0])∧Hid (Below w.heap.size w wr)) (fun i _=>m' - (intOf i).toNat)
   case atStart=>exact⟨0,_,its,aaL _,rfl,HM.o.symm,O (by simp),f,r,P,H,l,g⟩
   case round =>
    clear f r P H l g t0 t1 s0 s1;obtain⟨J,rfl⟩:∃ J:World,J=wr:=⟨_,rfl⟩;obtain⟨j,iv,is,g3,rfl,a7,b5,f,r,P,H,l,g⟩:=hrel;obtain⟨Bi,di,rfl⟩:=dh f.o.row;rw [a7] at r
    have dY:=O a7;have t0:=P.o.cell 0;have t1:=P.o.cell 1;have s0:=H.o.cell 0;have s1:=H.o.cell 1;have u0:=r.o.cell 0;have u1:=r.o.cell 1;have uf:=r.o.frozen 1;by_cases b8:j < m'
    ·have i3:decide (j < m')=true:=aaU b8;obtain⟨b2,o2,rfl,c8,hc⟩:=HU.o.items.ex (by rw [← dZ.o];omega);obtain⟨C,b3⟩:∃ C,iB[j]? = some C:=⟨_,aaD (by rw [← dZ.o];exact b8)⟩;have cc:=(g.o.cell (p:=⟨b2,o2+j,none⟩) (by exact c8)).trans (hc j C b3)
     have g2:0≤C∧C≤10000:=by
      obtain⟨la,h1,h2⟩:=wC.o j C b3;rw [← Nv.o] at h2;omega
     have wh:=O b3;clear hc b3 a7;have a0:b2 < J.heap.size:=aaW c8 g.o.size;obtain⟨p,F⟩:∃ p,p=m+j:=⟨_,rfl⟩;rw [← F] at r dY u1
     have e9:p≤20000:=by omega
     have b6:=O F;clear F;have z0:(0:Int)≤(j:Int):=by omega
     have z1:(j:Int) < (m':Int):=by omega
     have wv:IntKind.i64.wrap (C+(n:Int))=C+(n:Int):=IntWalk.i64_in _ (by omega);have a8:=g.o.size;have f0:=r.o.lt;have Jp:=O (show J.ownsRow w.heap.size 3 1 (.slice Bi p di) p (intCells is) from by have h9:=f.o.row;rw [dY.o] at h9;exact h9);go_wp2_with fail
     go_region_law ((refine step_append_lies _ (by rfl) _ _ _ (by rfl) w.heap.size 3 j0 _ 1 8 Tryz.underlying24 e7 f2 f3 f4 rfl (by omega) _ p (intCells is) (by rfl) (((Jp.o.alloc _)).drew)
                                ⟨J.heap.size,0,none⟩ 1 1 [.int .i64 (C+(n:Int))] (by rfl) (by rfl) (World.news_of_block (cs:=#[.int .i64 (C+(n:Int))]) (t:=3) (fr:=(0,0)) (heap_alloc_new J _)) (by intro u hu;simp at hu;subst hu;rfl)
                                (by omega) (by simp only [maxLen];omega) (by omega) (by simp;omega) (J.heap.size+1) (by simp) ?_;intro gi zm w9 a9 a Ol d5;have kk:=((r.o.alloc (.cells #[.int .i64 (C+(n:Int))] 3)).drew).grown a (fun e=>aT Jp.o r.o (by decide) e.symm);have e0:=kk.cell 0;have e2:=kk.cell 1;have e5:=kk.frozen 1;clear kk))
     all_goals
      have QH:=O (Below.drew (ah (Below.refl J.heap.size J) (aaJ _) (o:=(.cells #[.int .i64 (C+(n:Int))] 3))))
      obtain⟨bW,a4⟩:=RowsIn.item (q:=C+(n:Int)) (AY:=.slice (some ⟨gi,0,none⟩) (p+1) zm) (f.o.below QH.o) (by rw [dY.o];exact (r.o.alloc (.cells #[.int .i64 (C+(n:Int))] 3)).drew) (by rw [dY.o];exact a) (by rw [dY.o];exact a9) (by
       rcases Ol with e | e
       ·left;rw [dY.o,e];rfl
       ·right;rw [e];simp [Value.ownBlock])
      have iQ:=O ((((P.o.alloc (.cells #[.int .i64 (C+(n:Int))] 3)).drew).grown a (fun e=>aT Jp.o P.o (by decide) e.symm)).far (p:=⟨K,1,none⟩) (by show w.heap.size ≠ K;omega) (.slice (some ⟨gi,0,none⟩) (p+1) zm));have oL:=O ((((H.o.alloc (.cells #[.int .i64 (C+(n:Int))] 3)).drew).grown a (fun e=>aT Jp.o H.o (by decide) e.symm)).far (p:=⟨K,1,none⟩) (by show w.heap.size+1 ≠ K;omega) (.slice (some ⟨gi,0,none⟩) (p+1) zm));have kM:=O ((((l.o.alloc (.cells #[.int .i64 (C+(n:Int))] 3)).drew).grown a (fun e=>aT Jp.o l.o (by decide) e.symm)).far (p:=⟨K,1,none⟩) (by show w.heap.size+1+1 ≠ K;omega) (.slice (some ⟨gi,0,none⟩) (p+1) zm));have Nt:=O (dx (b:=K) (i:=1) (u:=.slice (some ⟨gi,0,none⟩) (p+1) zm) ((g.o.trans (QH.o.mono a8)).grown a (Nat.le_trans a8 QH.o.size) (fun q X=>by have:=(Jp.o.lt q X).1;omega)) (by omega))
      have wB:=O (show is ++ [C+(n:Int)]=its ++ (iB.take (j+1)).map (·+(n:Int)) by
       rw [b5.o,List.take_add_one,wh.o,List.map_append,List.append_assoc];rfl)
      have YE:=O bW;have YH:=O a4;clear bW a4 Ol a a9 e0 e2 e5 d5;go_wp2_with fail;exact⟨⟨j+1,_,is ++ [C+(n:Int)],by omega,by go_num,by rw [aaO,dY.o,b6.o];rfl,wB,YE,YH,iQ,oL,kM,Nt⟩,by simp [intOf];omega⟩
    ·have i3:decide (j < m')=false:=aaV b8;obtain rfl:j=m':=by omega
     have iR:=O (show is=its ++ iB.map (·+(n:Int)) by
      have h9:=b5.o
      rwa [aaN (by rw [← dZ.o];exact aaJ _)] at h9)
     rw [a7] at f
     obtain⟨M,hM⟩:∃ M,M=m+j:=⟨_,rfl⟩;rw [← hM] at f r cK u1
     clear a7 dY hM b5;have v0:=l.o.cell 0;have v1:=l.o.cell 1;have g0:=l.o.frozen 0;have g1:=l.o.frozen 1;have bW:=O (show RowsIn w.heap.size J (.slice L N S) (.slice Bi M di) ext (its ++ iB.map (·+(n:Int))) by have h9:=f.o;rwa [iR.o] at h9);clear f iR;by_cases h8:800 < N
     ·have d1:decide (800 < N)=true:=aaU h8;have e3:decide ((800:Int) < (N:Int))=true:=aaU (by omega);have Xn:=O (show kS T U=5 by rw [cK.o,if_pos (by unfold kP;rw [d1];rfl)]);clear h8;go_wp2_with fail;have Z:=(l.o.d_ 0 (.slice none 0 0)).d_ 1 (.slice none 0 0);have r0:=Z.cell 0;have r1:=Z.cell 1;refine bodyPost_ret (v:=.tuple #[.agg #[.slice none 0 0,.slice none 0 0],.int .i64 5]) (by simp [results,Tryz.f49,go_sem,r0,r1]) rfl ?_;exact⟨dx (dx g.o (by omega)) (by omega),.inl ⟨by rw [Xn.o];simp,by rw [Xn.o]⟩⟩
     have d1:decide (800 < N)=false:=aaV h8;have e3:decide ((800:Int) < (N:Int))=false:=aaV (by omega);by_cases h6:60 < M
     ·have d2:decide (60 < M)=true:=aaU h6;have kY:decide ((60:Int) < (M:Int))=true:=aaU (by omega);have Xn:=O (show kS T U=5 by rw [cK.o,if_pos (by unfold kP;rw [d1,d2];rfl)]);clear h8 h6;go_wp2_with fail;have Z:=(l.o.d_ 0 (.slice none 0 0)).d_ 1 (.slice none 0 0);have r0:=Z.cell 0;have r1:=Z.cell 1;refine bodyPost_ret (v:=.tuple #[.agg #[.slice none 0 0,.slice none 0 0],.int .i64 5]) (by simp [results,Tryz.f49,go_sem,r0,r1]) rfl ?_;exact⟨dx (dx g.o (by omega)) (by omega),.inl ⟨by rw [Xn.o];simp,by rw [Xn.o]⟩⟩
     have d2:decide (60 < M)=false:=aaV h6;have kY:decide ((60:Int) < (M:Int))=false:=aaV (by omega);have Xn:=O (show kS T U=0 by rw [cK.o,if_neg (by unfold kP;rw [d1,d2];simp)]);clear h8 h6;go_wp2_with fail;have Z:=(l.o.d_ 0 (.slice L N S)).d_ 1 (.slice Bi M di);have r0:=Z.cell 0;have r1:=Z.cell 1;refine bodyPost_ret (v:=.tuple #[.agg #[.slice L N S,.slice Bi M di],.int .i64 0]) (by simp [results,Tryz.f49,go_sem,r0,r1]) rfl ?_;exact⟨dx (dx g.o (by omega)) (by omega),.inr ⟨Xn.o,_,_,ext,rfl,(bW.o.tY l.o).tY (l.o.d_ 0 _),Yt.o⟩⟩
end Go.Proofs.YthepmkjggfijoaaGreatDoor
