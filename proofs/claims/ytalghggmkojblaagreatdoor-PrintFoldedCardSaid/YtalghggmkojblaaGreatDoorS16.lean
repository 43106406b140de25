/-
  A part of the proof.
-/
import Derived.Test.YtalghggmkojblaaGreatDoorS15
set_option linter.all false
set_option maxRecDepth 100000
set_option maxHeartbeats 4000000
namespace Go.Proofs.YtalghggmkojblaaGreatDoor
open Go.RowKit Mist
attribute [local go_sem] ak aN aV aF aj
section
variable {g:Nat} {tv:Value} {l:List Tok} {en:Int} {iv:Value} (hF:PF l)
include hF
theorem OG (m:Nat)(w:World)(k:Nat)(xs:List NV)(nv:Value)(r:j5)(h:PS g tv l en iv w (k+1) xs nv)(hk:k+1≤l.length)(hn:xs.length≤k)(hw:Wf (aH xs))(hr:jg l en m .choose k (aH xs)=some r) :
  Calls Tryz.prog 133 #[.pointer (some ⟨g,0,none⟩),.agg #[.int .u8 (tg l k).kind,.string (aG (tx l k)),.int .i64 (pl l en k)]] w (bG g tv l en iv w xs nv r):=by
 have C:=fun (f:Nat) (_:f≤m) (j:Job) (hj:isFn j=true)=>oD (g:=g) (tv:=tv) (en:=en) (iv:=iv) hF f j hj
 have CL:=fun (f:Nat) (_:f≤m) (e:El)=>oC (g:=g) (tv:=tv) (en:=en) (iv:=iv) hF f e
 have H:=O h;clear h;have L:=O ((At.refl H.o).alloc (.cells #[.int .u8 (tg l k).kind,.string (aG (tx l k)),.int .i64 (pl l en k)] 112));have xg:=O (bY.new w 112 #[.int .u8 (tg l k).kind,.string (aG (tx l k)),.int .i64 (pl l en k)]);have G:=O hw;clear hw;have hn0:(aH xs).length≤k:=by rw [dK];exact hn
 have hlen:=hF.len;unfold jg at hr
 have qX:=O hr;clear hr;go_in
 rcases gy qX.o with ⟨d,Y⟩ | ⟨d,rfl⟩
 rotate_left
 ·have uh:=O d;clear d;go_wp2_with fail;refine (mo g tv l en iv hF _ (k+1) _ _ L.o.ps (by omega) uh.o).mono ?_;rintro e w1⟨rfl,hb1⟩;unfold aY;go_wp2_with fail;exact⟨rfl,bG.bad rfl ((H.o.low L.o.mv).trans (hb1.mono (amM L.o.ps.lt)))⟩
 have T:=O Y;clear Y qX;have hlt1:=mH d (by simp);have uh:=O d;clear d;go_wp2_with fail;refine (kE g tv l en iv hF _ (k+1) _ _ L.o.ps (by omega) uh.o).mono ?_;rintro e w1⟨rfl,p1,m1⟩;have rE:=O (L.o.ps.bH m1 xg.o);clear xg;have R:=O (L.o.step p1 m1);clear L;clear p1 m1;unfold jc;have jQ:=O (rE.o.alloc (.cells #[.int .u8 (tg l (k+1)).kind,.string (aG (tx l (k+1))),.int .i64 (pl l en (k+1))] 112));clear rE;have nT:=O (bY.new w1 112 #[.int .u8 (tg l (k+1)).kind,.string (aG (tx l (k+1))),.int .i64 (pl l en (k+1))]);have A:=O (R.o.alloc (.cells #[.int .u8 (tg l (k+1)).kind,.string (aG (tx l (k+1))),.int .i64 (pl l en (k+1))] 112));clear R;rcases dN T.o with ⟨i,Z⟩ | ⟨i,rfl⟩
 rotate_left
 ·have E:=O i;clear i;go_wp2_with fail;refine (iy g tv l en iv hF [58] (.inr (by decide +kernel)) _ ((k+1)+1) _ _ A.o.ps (by omega) E.o).mono ?_;rintro e w2⟨rfl,hb2⟩;unfold aY;go_wp2_with fail;exact⟨rfl,bG.bad rfl ((H.o.low A.o.mv).trans (hb2.mono (amM A.o.ps.lt)))⟩
 have U:=O Z;clear Z T;have hlt2:=dR i (by simp);have E:=O i;clear i;go_wp2_with fail;refine (fO g tv l en iv hF [58] (.inr (by decide +kernel)) _ ((k+1)+1) _ _ A.o.ps (by omega) E.o).mono ?_;rintro e w2⟨rfl,p2,m2⟩;have dY:=O (A.o.ps.bH m2 jQ.o);have kZ:=O (A.o.ps.bH m2 nT.o);clear jQ nT;have a:=O (A.o.step p2 m2);clear A;clear p2 m2;rcases dW U.o with ⟨Vj,k3,Ze,q,hr3⟩ | ⟨kb3,q,rfl⟩
 rotate_left
 ·have EK:=O q;clear q;go_wp2_with fail;refine (ER hF _ (((k+1)+1)+1) _ _ _ a.o.ps (by omega) (by rw [a.o.len];omega) (by rw [a.o.ns];exact G.o) (by rw [a.o.ns];exact EK.o)).mono ?_;rintro e w3⟨rfl,hb3⟩;unfold aY;go_wp2_with fail;exact⟨rfl,bG.bad rfl ((H.o.low a.o.mv).trans hb3)⟩
 have EK:=O q;clear q;have V:=O hr3;clear hr3 U;go_wp2_with fail;refine (ER hF _ (((k+1)+1)+1) _ _ _ a.o.ps (by omega) (by rw [a.o.len];omega) (by rw [a.o.ns];exact G.o) (by rw [a.o.ns];exact EK.o)).mono ?_;rintro e w3⟨rfl,adV,Ll,yU⟩;have Q:=O (Og (by omega) G.o EK.o);have Za:=Q.o.lo;have gf3:=Q.o.few;have ge3:=Q.o.le;have gn3:=Q.o.len;have jB:=O (yU.blk a.o.ps dY.o (by decide) (by decide));have MV:=O (yU.blk a.o.ps kZ.o (by decide) (by decide));clear dY kZ;have J:=O Q.o.wf;have B:=O (a.o.trans yU);clear a;clear yU;rcases dN V.o with ⟨M,hr4⟩ | ⟨M,rfl⟩
 rotate_left
 ·have F:=O M;clear M;go_wp2_with fail;refine (iy g tv l en iv hF [46,46] (.inr (by decide +kernel)) _ k3 _ _ B.o.ps (by omega) F.o).mono ?_;rintro e w4⟨rfl,hb4⟩;unfold aY;go_wp2_with fail;exact⟨rfl,bG.bad rfl ((H.o.low B.o.mv).trans (hb4.mono (amM B.o.ps.lt)))⟩
 have W:=O hr4;clear hr4 V;have aj4:=dR M (by simp);have F:=O M;clear M;go_wp2_with fail;refine (fO g tv l en iv hF [46,46] (.inr (by decide +kernel)) _ k3 _ _ B.o.ps (by omega) F.o).mono ?_;rintro e w4⟨rfl,p4,m4⟩;have x:=O (B.o.ps.bH m4 jB.o);have P:=O (B.o.ps.bH m4 MV.o);clear jB MV;have n:=O (B.o.step p4 m4);clear B;clear p4 m4;rcases dW W.o with ⟨ks5,k5,ns5,t,Oz⟩ | ⟨kb5,t,rfl⟩
 rotate_left
 ·have v:=O t;clear t;have fP:=x.o.cell 0;have fZ:=x.o.cell 1;have f_:=x.o.cell 2;have sl0:=x.o.lt;have tL:=P.o.cell 1;have sl1:=P.o.lt;go_wp2_with fail;refine wp_region_held_drew (S:=fun y=>y.cell? ⟨w.heap.size,0,none⟩=some (.int .u8 (tg l k).kind)∧y.cell? ⟨w.heap.size,1,none⟩=some (.string (aG (tx l k)))∧y.cell? ⟨w.heap.size,2,none⟩=some (.int .i64 (pl l en k))∧y.cell? ⟨w1.heap.size,1,none⟩=some (.string (aG (tx l (k+1))))) (by kernel_rfl) ⟨fP,fZ,f_,tL⟩ (fun c=>?_);refine cB 0 rfl c ?_;simp only [Act.put,amC,amD,amE];refine cB 1 rfl c ?_;simp only [Act.put,amC,amD,amE];refine cB 2 rfl c ?_;simp only [Act.put,amC,amD,amE];refine cB 3 rfl c ?_;simp only [Act.put,amC,amD,amE];refine cB 4 rfl c ?_;simp only [Act.put,amC,amD,amE];refine cB 5 rfl c ?_;simp only [Act.put,amC,amD,amE];refine wpAnyH_ready (rs:=[6]) (by kernel_rfl) (by simp) ?_;refine gM (.s (.s (.s (.s (.s (.s .z)))))) (fun K hK=>?_);go_simp;refine (ER hF _ (k3+1) _ _ _ n.o.ps.drew (by omega) (by rw [n.o.len];omega) (by rw [n.o.ns];exact J.o) (by rw [n.o.ns];exact v.o)).mono ?_;rintro e w5⟨rfl,hb5⟩;unfold aY;go_wp2_with fail;exact⟨rfl,bG.bad rfl ((Below.drew (H.o.low n.o.mv)).trans hb5)⟩
 have v:=O t;clear t;have xw:=O Oz;clear Oz W;have u:=O (Og (by omega) J.o v.o);have gl5:=u.o.lo;have gf5:=u.o.few;have ge5:=u.o.le;have gn5:=u.o.len;have fP:=x.o.cell 0;have fZ:=x.o.cell 1;have f_:=x.o.cell 2;have sl0:=x.o.lt;have tL:=P.o.cell 1;have sl1:=P.o.lt;go_wp2_with fail
 go_region_held3 (fun y=>y.cell? ⟨w.heap.size,0,none⟩=some (.int .u8 (tg l k).kind)∧y.cell? ⟨w.heap.size,1,none⟩=some (.string (aG (tx l k)))∧y.cell? ⟨w.heap.size,2,none⟩=some (.int .i64 (pl l en k))∧y.cell? ⟨w1.heap.size,1,none⟩=some (.string (aG (tx l (k+1)))))
  (first | go_keep|(go_split_ands;refine⟨?_,?_,?_,?_⟩ <;> assumption))
  (first
   | (go_at_call 167;refine (ER hF _ (k3+1) _ _ _ n.o.ps.drew (by omega) (by rw [n.o.len];omega) (by rw [n.o.ns];exact J.o) (by rw [n.o.ns];exact v.o)).mono ?_;rintro e w5⟨rfl,ahU,Qx,Sk⟩;have D:=O (n.o.drew.trans Sk);have N:=Sk.blk n.o.ps.drew x.o.drew (by decide) (by decide);have vI:=N.cell 0;have vJ:=N.cell 1;have vK:=N.cell 2;have dl0:=N.lt;have zy:=O N;clear N;have UQ:=Sk.blk n.o.ps.drew P.o.drew (by decide) (by decide);have aaL:=UQ.cell 1;have dl1:=UQ.lt;have I:=O UQ;clear UQ;have hz5:=D.o.mv.size;clear Sk)
   | (go_at_call 168;refine (h_ g tv l en iv ns5.length 40 _ _ _ (tx l (k+1)) 0 _ [hd Vj,hd ks5] _ k5 _ _ (D.o.ps.alloc _) (ET w5 (hd Vj) (hd ks5)) D.o.len (by omega)).mono ?_;rintro e w6⟨rfl,Tn,p6,m6⟩;have rG:=m6.blk (zy.o.alloc _) (D.o.ps.tag zy.o (by decide) (by decide)).1 (D.o.ps.tag zy.o (by decide) (by decide)).2;have vL:=rG.cell 0;have vM:=rG.cell 1;have vN:=rG.cell 2;clear rG;have X:=m6.blk (I.o.alloc _) (D.o.ps.tag I.o (by decide) (by decide)).1 (D.o.ps.tag I.o (by decide) (by decide)).2;have aaN:=X.cell 1;clear X;have r_:=O ((At.alloc D.o _).add p6 m6 (by intro b hb;simp [Value.ownBlock] at hb;omega));clear p6 m6))
 all_goals
  obtain rfl:=dS xw.o;go_wp2_with fail;go_ret;exact bG.ok rfl r_.o
end
section
variable {g:Nat} {tv:Value} {l:List Tok} {en:Int} {iv:Value} (hF:PF l)
include hF
theorem Xv (m:Nat)(w:World)(k:Nat)(xs:List NV)(nv:Value)(r:j5)(h:PS g tv l en iv w (k+1) xs nv)(hk:k+1≤l.length)(hn:xs.length≤k)(hw:Wf (aH xs))(hr:jg l en m .Sb k (aH xs)=some r) :
  Calls Tryz.prog 135 #[.pointer (some ⟨g,0,none⟩),.agg #[.int .u8 (tg l k).kind,.string (aG (tx l k)),.int .i64 (pl l en k)]] w (bG g tv l en iv w xs nv r):=by
 have C:=fun (f:Nat) (_:f≤m) (j:Job) (hj:isFn j=true)=>oD (g:=g) (tv:=tv) (en:=en) (iv:=iv) hF f j hj
 have CL:=fun (f:Nat) (_:f≤m) (e:El)=>oC (g:=g) (tv:=tv) (en:=en) (iv:=iv) hF f e
 have H:=O h;clear h;have nP:=O ((At.refl H.o).alloc (.cells #[.int .u8 (tg l k).kind,.string (aG (tx l k)),.int .i64 (pl l en k)] 112));have xg:=O (bY.new w 112 #[.int .u8 (tg l k).kind,.string (aG (tx l k)),.int .i64 (pl l en k)]);have I:=O hw;clear hw;have hn0:(aH xs).length≤k:=by rw [dK];exact hn
 have t:=hF.len;unfold jg at hr
 have qX:=O hr;clear hr;go_in
 obtain⟨i0,hi0,hz0,hz1,hz2⟩:=info_parts jq;rcases gy qX.o with ⟨D,hr1⟩ | ⟨D,rfl⟩
 rotate_left
 ·have uh:=O D;clear D;go_wp2_with fail;refine (mo g tv l en iv hF _ (k+1) _ _ nP.o.ps (by omega) uh.o).mono ?_;rintro e w1⟨rfl,hb1⟩
  (try unfold aY)
  go_wp2_with fail;exact⟨rfl,bG.bad rfl ((H.o.low nP.o.mv).trans (hb1.mono (amM nP.o.ps.lt)))⟩
 have HR1:=O hr1;clear hr1 qX;have hlt1:=mH D (by simp);have uh:=O D;clear D;go_wp2_with fail;refine (kE g tv l en iv hF _ (k+1) _ _ nP.o.ps (by omega) uh.o).mono ?_;rintro e w1⟨rfl,p1,m1⟩;have rE:=O (nP.o.ps.bH m1 xg.o);clear xg;have HA1:=O (nP.o.step p1 m1);clear nP;clear p1 m1;unfold jc;have jQ:=O (rE.o.alloc (.cells #[.int .u8 (tg l (k+1)).kind,.string (aG (tx l (k+1))),.int .i64 (pl l en (k+1))] 112));clear rE;have nT:=O (bY.new w1 112 #[.int .u8 (tg l (k+1)).kind,.string (aG (tx l (k+1))),.int .i64 (pl l en (k+1))]);have bf:=O (HA1.o.alloc (.cells #[.int .u8 (tg l (k+1)).kind,.string (aG (tx l (k+1))),.int .i64 (pl l en (k+1))] 112));clear HA1;rcases dN HR1.o with ⟨E,hr2⟩ | ⟨E,rfl⟩
 rotate_left
 ·have HE2:=O E;clear E;go_wp2_with fail;refine (iy g tv l en iv hF [40] (.inr (by decide +kernel)) _ ((k+1)+1) _ _ bf.o.ps (by omega) HE2.o).mono ?_;rintro e w2⟨rfl,hb2⟩
  (try unfold aY)
  go_wp2_with fail;exact⟨rfl,bG.bad rfl ((H.o.low bf.o.mv).trans (hb2.mono (amM bf.o.ps.lt)))⟩
 have HR2:=O hr2;clear hr2 HR1;have hlt2:=dR E (by simp);have HE2:=O E;clear E;go_wp2_with fail;refine (fO g tv l en iv hF [40] (.inr (by decide +kernel)) _ ((k+1)+1) _ _ bf.o.ps (by omega) HE2.o).mono ?_;rintro e w2⟨rfl,p2,m2⟩;have dY:=O (bf.o.ps.bH m2 jQ.o);have kZ:=O (bf.o.ps.bH m2 nT.o);clear jQ nT;have B:=O (bf.o.step p2 m2);clear bf;clear p2 m2;rcases gG HR2.o with ⟨Dt,S⟩ | ⟨Dt,S⟩
 focus
  have hlt3:=dR Dt (by simp);have Qo:=O Dt;clear Dt;have HR3:=O S;clear S;go_wp2_with fail;refine (vR [41] (.inr (by decide +kernel)) g tv l en iv _ (((k+1)+1)+1) _ _ (B.o.alloc _).ps (by omega) t hF.kind _ _ 9 (0,0) (heap_alloc_new _ _) true (by simp [Qo.o])).mono ?_;rintro e w27⟨rfl,Xc⟩;have QH:=O ((dY.o.alloc (.cells #[.string (aG [41])] 9)).below Xc (dY.o.alloc (.cells #[.string (aG [41])] 9)).lt);have QJ:=O ((kZ.o.alloc (.cells #[.string (aG [41])] 9)).below Xc (kZ.o.alloc (.cells #[.string (aG [41])] 9)).lt);clear dY kZ;have Y:=O ((B.o.alloc (.cells #[.string (aG [41])] 9)).below Xc);clear B;clear Xc;obtain⟨G,hks⟩:∃ l:List Int,l=[]:=⟨_,rfl⟩;obtain⟨n,hq⟩:∃ q:Nat,q=0:=⟨_,rfl⟩;have L:=O (show w27.ownsRow w.heap.size 3 1 (.slice none 0 0) n (intCells G) from by rw [hq,hks];exact World.ownsRow_nil _ _ _ _);have ahp:=O (show G.length=n from by rw [hq,hks];rfl);have afC:n≤0:=by omega
  have ZT:=O (ne_nil (ext:=[]));have UG:=I;have i:=HR3.o;rw [← hks] at i;unfold wH at i;have ZX:=O i;clear i hks hq
 rotate_left
 focus
  have Qo:=O Dt;clear Dt;have HR3:=O S;clear S;go_wp2_with fail;refine (vR [41] (.inr (by decide +kernel)) g tv l en iv _ (((k+1)+1)+1) _ _ (B.o.alloc _).ps (by omega) t hF.kind _ _ 9 (0,0) (heap_alloc_new _ _) false (by simp [Qo.o])).mono ?_;rintro e w26⟨rfl,ad8⟩;have Zr:=O ((dY.o.alloc (.cells #[.string (aG [41])] 9)).below ad8 (dY.o.alloc (.cells #[.string (aG [41])] 9)).lt);have Zt:=O ((kZ.o.alloc (.cells #[.string (aG [41])] 9)).below ad8 (kZ.o.alloc (.cells #[.string (aG [41])] 9)).lt);clear dY kZ;have y:=O ((B.o.alloc (.cells #[.string (aG [41])] 9)).below ad8);clear B;clear ad8;rcases dW HR3.o with ⟨G,k27,amk,c,ain⟩ | ⟨amf,c,rfl⟩
  rotate_left
  ·have M:=O c;clear c;go_wp2_with fail;refine (CL m (amL _) .param _ (((k+1)+1)+1) _ _ _ y.o.ps (by omega) (by rw [y.o.len];omega) (by rw [y.o.ns];exact I.o) (by rw [y.o.ns];exact M.o)).mono ?_;rintro e w27⟨rfl,Xc⟩
   (try unfold aY)
   go_wp2_with fail;exact⟨rfl,bG.bad rfl ((H.o.low y.o.mv).trans Xc)⟩
  have M:=O c;clear c;have ajj:=O ain;clear ain HR3;go_wp2_with fail;refine (CL m (amL _) .param _ (((k+1)+1)+1) _ _ _ y.o.ps (by omega) (by rw [y.o.len];omega) (by rw [y.o.ns];exact I.o) (by rw [y.o.ns];exact M.o)).mono ?_;rintro e w27⟨v27,ahT,amr,rfl,agE,ad5,hd27⟩;have L:=O (jr (base':=w.heap.size) agE (fun b hb=>Nat.le_trans y.o.mv.size (agE.lt b hb).1));clear agE;have Zi:=O (eG M.o (by omega) I.o (Ids.nil _) (by simp));have ajM:=Zi.o.lo;have alJ:=Zi.o.few;have alB:=Zi.o.le;have alS:=Zi.o.len;simp only [Job.reads] at ajM
  have QH:=O (ad5.blk y.o.ps Zr.o (by decide) (by decide));have QJ:=O (ad5.blk y.o.ps Zt.o (by decide) (by decide));clear Zr Zt;have UG:=O Zi.o.wf;have Y:=O (y.o.trans ad5);clear y;clear ad5;have ZT:=O (show ∀ x ∈ [] ++ ahT,x.2.ownBlock=none∨x.2.ownBlock ≠ v27.ownBlock from hd27);clear hd27;have afC:=abM (by omega) I.o M.o;obtain⟨n,agF⟩:∃ q,q=G.length:=⟨_,rfl⟩;rw [← agF] at L afC
  have ahp:=O agF.symm;clear agF;obtain⟨A27,c27,rfl⟩:=dA L.o;have i:=ajj.o;unfold wH at i;have ZX:=O i;clear i
 all_goals
  rcases dN ZX.o with ⟨Xg,aio⟩ | ⟨Xg,rfl⟩
  rotate_left
  ·have afY:=O Xg;clear Xg;go_wp2_with fail;refine (iy g tv l en iv hF [41] (.inr (by decide +kernel)) _ _ _ _ Y.o.ps (by omega) afY.o).mono ?_;rintro e w29⟨rfl,ajU⟩
   (try unfold aY)
   go_wp2_with fail;exact⟨rfl,bG.bad rfl ((H.o.low Y.o.mv).trans (ajU.mono (amM Y.o.ps.lt)))⟩
  have ahr:=O aio;clear aio ZX;have alj:=dR Xg (by simp);have afY:=O Xg;clear Xg;go_wp2_with fail;refine (fO g tv l en iv hF [41] (.inr (by decide +kernel)) _ _ _ _ Y.o.ps (by omega) afY.o).mono ?_;rintro e w29⟨rfl,p29,T⟩;have Zu:=O (Y.o.ps.bH T QH.o);have Zv:=O (Y.o.ps.bH T QJ.o);clear QH QJ;have aae:=O (Y.o.ps.mM T L.o (by decide) (by decide));clear L;have Ko:=O (Y.o.step p29 T);clear Y;clear p29 T;rcases dN ahr.o with ⟨Xh,aip⟩ | ⟨Xh,rfl⟩
  rotate_left
  ·have afZ:=O Xh;clear Xh;go_wp2_with fail;refine (iy g tv l en iv hF [58] (.inr (by decide +kernel)) _ _ _ _ Ko.o.ps (by omega) afZ.o).mono ?_;rintro e w30⟨rfl,ajV⟩
   (try unfold aY)
   go_wp2_with fail;exact⟨rfl,bG.bad rfl ((H.o.low Ko.o.mv).trans (ajV.mono (amM Ko.o.ps.lt)))⟩
  have ahs:=O aip;clear aip ahr;have alk:=dR Xh (by simp);have afZ:=O Xh;clear Xh;go_wp2_with fail;refine (fO g tv l en iv hF [58] (.inr (by decide +kernel)) _ _ _ _ Ko.o.ps (by omega) afZ.o).mono ?_;rintro e w30⟨rfl,p30,U⟩;have Zw:=O (Ko.o.ps.bH U Zu.o);have Zx:=O (Ko.o.ps.bH U Zv.o);clear Zu Zv;have Rj:=O (Ko.o.ps.mM U aae.o (by decide) (by decide));clear aae;have v:=O (Ko.o.step p30 U);clear Ko;clear p30 U;rcases dW ahs.o with ⟨OQ,a,aml,d,aiq⟩ | ⟨amg,d,rfl⟩
  rotate_left
  ·have adH:=O d;clear d;go_wp2_with fail;refine (C m (amL _) .typ rfl _ _ _ _ _ v.o.ps (by omega) (by rw [v.o.len];omega) (by rw [v.o.ns];exact UG.o) (by rw [v.o.ns];exact adH.o)).mono ?_;rintro e w31⟨rfl,ajW⟩
   (try unfold aY)
   go_wp2_with fail;exact⟨rfl,bG.bad rfl ((H.o.low v.o.mv).trans ajW)⟩
  have adH:=O d;clear d;have ajk:=O aiq;clear aiq ahs;go_wp2_with fail;refine (C m (amL _) .typ rfl _ _ _ _ _ v.o.ps (by omega) (by rw [v.o.len];omega) (by rw [v.o.ns];exact UG.o) (by rw [v.o.ns];exact adH.o)).mono ?_;rintro e w31⟨rfl,alc,ams,W_⟩;have Zj:=O (eG adH.o (by omega) UG.o (Ids.nil _) (by simp));have ajN:=Zj.o.lo;have alK:=Zj.o.few;have alC:=Zj.o.le;have alT:=Zj.o.len;simp only [Job.reads] at ajN
  have afQ:=O (W_.blk v.o.ps Zw.o (by decide) (by decide));have afR:=O (W_.blk v.o.ps Zx.o (by decide) (by decide));clear Zw Zx;have afk:=O (EY ZT.o W_.fresh (fun b hb=>(Rj.o.lt b hb).2));clear ZT;have KL:=O (v.o.ps.mM W_.mv Rj.o (by decide) (by decide));clear Rj;have aah:=O Zj.o.wf;have afN:=O (v.o.trans W_);clear v;clear W_
  go_wp2_with (at_builtin
               refine wpList_append_lies _ rfl (.tmp 22) (.tmp 25) 26 rfl w.heap.size 3 i0 _ 1 8 Tryz.underlying26 hi0 hz0 hz1 hz2 rfl (by decide) _ n (intCells G) rfl
                 (KL.o.alloc _) ⟨w31.heap.size,0,none⟩ 1 1 [.int .i64 (hd OQ)] rfl rfl (iK _ _ _) (by intro u hu;simp at hu;subst hu;rfl) (by omega) (by simp only [maxLen];omega) (by omega) (by have:=afN.o.mv.size;simp;omega) (w31.heap.size+1) (by simp) ?_
               intro ajG aft w32 abb ad9 afy ah4)
  have afl:=O (AU afN.o.ps afk.o afy (n+1) aft);clear afy;have Fx:=O (l6 afQ.o KL.o ad9 (by decide));have Fy:=O (l6 afR.o KL.o ad9 (by decide));have Kq:=O ((afN.o.alloc (.cells #[.int .i64 (hd OQ)] 3)).grown H.o KL.o (by decide) ad9 afk.o);have adz:=O (show w32.ownsRow w.heap.size 3 1 (.slice (some ⟨ajG,0,none⟩) (n+1) aft) (n+1) (intCells (G ++ [hd OQ])) by rw [jf];exact abb);clear abb;have aje:=O (show (G ++ [hd OQ]).length=n+1 by rw [amQ,ahp.o];rfl);clear ad9 ah4;rcases gG ajk.o with ⟨Xi,P⟩ | ⟨Xi,P⟩
  focus
   have alm:=dR Xi (by simp);have af0:=O Xi;clear Xi;have af9:=O P;clear P;go_wp2_with fail;refine (jT g tv l en iv hF [117,112,116,111] (.inl (by decide +kernel)) _ a _ _ Kq.o.ps (by omega) af0.o).mono ?_;rintro e w34⟨rfl,p34,V⟩;have QK:=O (Kq.o.ps.bH V Fx.o);have QM:=O (Kq.o.ps.bH V Fy.o);clear Fx Fy;have aaf:=O (Kq.o.ps.mM V adz.o (by decide) (by decide));clear adz;have vg:=O (Kq.o.step p34 V);clear Kq;clear p34 V;go_wp2_with fail;refine (iU g tv l en iv _ (a+1) _ _ vg.o.ps (by omega) t).mono ?_;rintro e w35⟨rfl,J⟩;have Zz:=O (QK.o.below J QK.o.lt);have ZA:=O (QM.o.below J QM.o.lt);clear QK QM;have aag:=O (own_below aaf.o J);clear aaf;have F:=O (vg.o.below J);clear vg;clear J;rcases gG af9.o with ⟨Xj,Q⟩ | ⟨Xj,Q⟩
   ·skip;have aln:=dR Xj (by simp);have af2:=O Xj;clear Xj;have ady:=O Q;clear Q;have q0:(tx l (a+1) == [48])=true:=ae9 _ [48] af2.o;have tf1:=oG;obtain rfl:j5.bad (a+1)=r:=amR ady.o;go_wp2_with fail;refine (sU g tv l en iv _ (a+1) _ _ F.o.ps (by omega) t).mono ?_;rintro e wq⟨rfl,hbq⟩
    (try unfold aY)
    go_wp2_with fail;exact⟨rfl,bG.bad rfl ((H.o.low F.o.mv).trans (hbq.mono (amM F.o.ps.lt)))⟩
   have af2:=O Xj;clear Xj;have ady:=O Q;clear Q;have q0:(tx l (a+1) == [48])=false:=YT _ [48] af2.o;have tf1:=oG;go_wp2_with fail;clear q0;rcases gy ady.o with ⟨Xk,air⟩ | ⟨Xk,rfl⟩
   rotate_left
   ·have af3:=O Xk;clear Xk;refine (wN g tv l en iv hF _ (a+1) _ _ F.o.ps (by omega) af3.o).mono ?_;rintro e w43⟨rfl,ajX⟩
    (try unfold aY)
    go_wp2_with fail;exact⟨rfl,bG.bad rfl ((H.o.low F.o.mv).trans (ajX.mono (amM F.o.ps.lt)))⟩
   have ajl:=O air;clear air ady;have alo:=mH Xk (by simp);have af3:=O Xk;clear Xk;refine (qI g tv l en iv hF _ (a+1) _ _ F.o.ps (by omega) af3.o).mono ?_;rintro e w43⟨rfl,p37,W⟩;have QO:=O (F.o.ps.bH W Zz.o);have QU:=O (F.o.ps.bH W ZA.o);clear Zz ZA;have Rk:=O (F.o.ps.mM W aag.o (by decide) (by decide));clear aag;have Z:=O (F.o.step p37 W);clear F;clear p37 W;unfold jc;have i:=ajl.o;unfold wG at i;have ZY:=O i;clear i
  rotate_left
  focus
   have af0:=O Xi;clear Xi;have af9:=O P;clear P;go_wp2_with fail;refine (lG g tv l en iv hF [117,112,116,111] (.inl (by decide +kernel)) _ a _ _ Kq.o.ps (by omega) af0.o).mono ?_;rintro e w43⟨rfl,K⟩;have QO:=O (Fx.o.below K Fx.o.lt);have QU:=O (Fy.o.below K Fy.o.lt);clear Fx Fy;have Rk:=O (own_below adz.o K);clear adz;have Z:=O (Kq.o.below K);clear Kq;clear K;have i:=af9.o;unfold wG at i;have ZY:=O i;clear i
  all_goals
   rcases dN ZY.o with ⟨Xm,ais⟩ | ⟨Xm,rfl⟩
   rotate_left
   ·have af4:=O Xm;clear Xm;go_wp2_with fail;refine (iy g tv l en iv hF [61] (.inr (by decide +kernel)) _ _ _ _ Z.o.ps (by omega) af4.o).mono ?_;rintro e w45⟨rfl,ajY⟩
    (try unfold aY)
    go_wp2_with fail;exact⟨rfl,bG.bad rfl ((H.o.low Z.o.mv).trans (ajY.mono (amM Z.o.ps.lt)))⟩
   have aht:=O ais;clear ais ZY;have alp:=dR Xm (by simp);have af4:=O Xm;clear Xm;go_wp2_with fail;refine (fO g tv l en iv hF [61] (.inr (by decide +kernel)) _ _ _ _ Z.o.ps (by omega) af4.o).mono ?_;rintro e w45⟨rfl,p45,X⟩;have ZB:=O (Z.o.ps.bH X QO.o);have ZE:=O (Z.o.ps.bH X QU.o);clear QO QU;have Rl:=O (Z.o.ps.mM X Rk.o (by decide) (by decide));clear Rk;have A:=O (Z.o.step p45 X);clear Z;clear p45 X;rcases dW aht.o with ⟨N,k46,akw,R,ait⟩ | ⟨amh,R,rfl⟩
   rotate_left
   ·have adI:=O R;clear R;go_wp2_with fail;refine (C m (amL _) .expr rfl _ _ _ _ _ A.o.ps (by omega) (by rw [A.o.len];omega) (by rw [A.o.ns];exact aah.o) (by rw [A.o.ns];exact adI.o)).mono ?_;rintro e w46⟨rfl,ajZ⟩
    (try unfold aY)
    go_wp2_with fail;exact⟨rfl,bG.bad rfl ((H.o.low A.o.mv).trans ajZ)⟩
   have adI:=O R;clear R;have ajm:=O ait;clear ait aht;go_wp2_with fail;refine (C m (amL _) .expr rfl _ _ _ _ _ A.o.ps (by omega) (by rw [A.o.len];omega) (by rw [A.o.ns];exact aah.o) (by rw [A.o.ns];exact adI.o)).mono ?_;rintro e w46⟨rfl,ald,amt,Xa⟩;have Zk:=O (eG adI.o (by omega) aah.o (Ids.nil _) (by simp));have ajO:=Zk.o.lo;have alL:=Zk.o.few;have alD:=Zk.o.le;have alU:=Zk.o.len;simp only [Job.reads] at ajO
   have ZF:=O (Xa.blk A.o.ps ZB.o (by decide) (by decide));have ZG:=O (Xa.blk A.o.ps ZE.o (by decide) (by decide));clear ZB ZE;have afm:=O (EY afl.o Xa.fresh (fun b hb=>(Rl.o.lt b hb).2));clear afl;have C9:=O (A.o.ps.mM Xa.mv Rl.o (by decide) (by decide));clear Rl;have ak8:=O Zk.o.wf;have afO:=O (A.o.trans Xa);clear A;clear Xa
   go_wp2_with (at_builtin
                refine wpList_append_lies _ rfl (.tmp 42) (.tmp 45) 26 rfl w.heap.size 3 i0 _ 1 8 Tryz.underlying26 hi0 hz0 hz1 hz2 rfl (by decide) _ (n+1) (intCells (G ++ [hd OQ])) rfl
                  (C9.o.alloc _) ⟨w46.heap.size,0,none⟩ 1 1 [.int .i64 (hd N)] rfl rfl (iK _ _ _) (by intro u hu;simp at hu;subst hu;rfl) (by omega) (by simp only [maxLen];omega) (by omega) (by have:=afO.o.mv.size;simp;omega) (w46.heap.size+1) (by simp) ?_
                intro ajH afu w47 abd Xp afz ah5;have bz0:=l6 ZF.o C9.o Xp (by decide);have ai2:=bz0.cell 0;have ai3:=bz0.cell 1;have ai4:=bz0.cell 2;have akZ:=bz0.lt;have bz1:=l6 ZG.o C9.o Xp (by decide);have alq:=bz1.cell 1;have amw:=bz1.lt)
   have ak4:=O (AU afO.o.ps afm.o afz ((n+1)+1) afu);clear afz;have Kt:=O (l6 ZF.o C9.o Xp (by decide));have ZH:=O (l6 ZG.o C9.o Xp (by decide));have afP:=O ((afO.o.alloc (.cells #[.int .i64 (hd N)] 3)).grown H.o C9.o (by decide) Xp afm.o);have ahy:=O (show w47.ownsRow w.heap.size 3 1 (.slice (some ⟨ajH,0,none⟩) ((n+1)+1) afu) ((n+1)+1) (intCells ((G ++ [hd OQ]) ++ [hd N])) by rw [jf];exact abd);clear abd;have ajf:=O (show ((G ++ [hd OQ]) ++ [hd N]).length=(n+1)+1 by rw [amQ,aje.o];rfl);clear Xp ah5;obtain rfl:=dS ajm.o;have fP:=Kt.o.cell 0;have fZ:=Kt.o.cell 1;have f_:=Kt.o.cell 2;have sl0:=Kt.o.lt;have tL:=ZH.o.cell 1;have sl1:=ZH.o.lt;refine (h_ g tv l en iv akw.length 42 _ _ _ (tx l (k+1)) _ _ ((G ++ [hd OQ]) ++ [hd N]) _ k46 _ _ afP.o.ps (abD ajf.o ahy.o) afP.o.len (by omega)).mono ?_;rintro e w48⟨rfl,amu,p48,m48⟩;have sH:=O (afP.o.add p48 m48 (fun b hb=>(ahy.o.lt b hb).1));clear p48 m48;go_wp2_with fail;go_ret;exact bG.ok rfl sH.o
end
