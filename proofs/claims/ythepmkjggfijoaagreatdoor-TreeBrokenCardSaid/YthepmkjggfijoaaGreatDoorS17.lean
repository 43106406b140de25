/-
  A part of the proof.
-/
import Derived.Test.YthepmkjggfijoaaGreatDoorSA
import Derived.Test.YthepmkjggfijoaaGreatDoorS03
import Derived.Test.YthepmkjggfijoaaGreatDoorS15
set_option linter.all false
set_option maxRecDepth 100000
set_option maxHeartbeats 4000000
namespace Go.Proofs.YthepmkjggfijoaaGreatDoor
open Go.RowKit Mist
attribute [local go_sem] aj aH aS aB ak
section
variable {g:Nat} {tv:Value} {l:List Tok} {en:Int} {iv:Value} (hF:PF l)
include hF
theorem OH (m:Nat)(w:World)(k:Nat)(xs:List NV)(nv:Value)(r:j6)(h:PS g tv l en iv w (k+1) xs nv)(hk:k+1≤l.length)(hn:xs.length≤k)(hw:Wf (aA xs))(hr:gI l en m .record k (aA xs)=some r) :
  Calls Tryz.prog 183 #[.pointer (some ⟨g,0,none⟩),.agg #[.int .u8 (tg l k).kind,.string (aM (tx l k)),.int .i64 (pl l en k)]] w (aR g tv l en iv w xs nv r):=by
 have C:=fun (f:Nat) (_:f≤m) (j:Job) (hj:isFn j=true)=>qd (g:=g) (tv:=tv) (en:=en) (iv:=iv) hF f j hj
 have CL:=fun (f:Nat) (_:f≤m) (e:El)=>pW (g:=g) (tv:=tv) (en:=en) (iv:=iv) hF f e
 have H:=O h;clear h;have B:=O ((At.refl H.o).alloc (.cells #[.int .u8 (tg l k).kind,.string (aM (tx l k)),.int .i64 (pl l en k)] 68));have zl:=O (aC.new w 68 #[.int .u8 (tg l k).kind,.string (aM (tx l k)),.int .i64 (pl l en k)]);have y:=O hw;clear hw;have hn0:(aA xs).length≤k:=by rw [aD];exact hn
 have hlen:=hF.len;unfold gI at hr
 have qm:=O hr;clear hr;go_in
 rcases gH qm.o with ⟨d,N⟩ | ⟨d,rfl⟩
 rotate_left
 ·have xM:=O d;clear d;go_wp2_with fail;refine (mX g tv l en iv hF _ (k+1) _ _ B.o.ps (by omega) xM.o).mono ?_;rintro e w1⟨rfl,hb1⟩;unfold aI;go_wp2_with fail;exact⟨rfl,aR.bad rfl ((H.o.low B.o.mv).trans (hb1.mono (aaK B.o.ps.lt)))⟩
 have G:=O N;clear N qm;have hlt1:=fA d (by simp);have xM:=O d;clear d;go_wp2_with fail;refine (lC g tv l en iv hF _ (k+1) _ _ B.o.ps (by omega) xM.o).mono ?_;rintro e w1⟨rfl,p1,m1⟩;have tN:=O (B.o.ps.aU m1 zl.o);clear zl;have F:=O (B.o.step p1 m1);clear B;clear p1 m1;unfold jl;have kC:=O (tN.o.alloc (.cells #[.int .u8 (tg l (k+1)).kind,.string (aM (tx l (k+1))),.int .i64 (pl l en (k+1))] 68));clear tN;have og:=O (aC.new w1 68 #[.int .u8 (tg l (k+1)).kind,.string (aM (tx l (k+1))),.int .i64 (pl l en (k+1))]);have v:=O (F.o.alloc (.cells #[.int .u8 (tg l (k+1)).kind,.string (aM (tx l (k+1))),.int .i64 (pl l en (k+1))] 68));clear F;rcases dO G.o with ⟨i,P⟩ | ⟨i,rfl⟩
 rotate_left
 ·have x:=O i;clear i;go_wp2_with fail;refine (gQ g tv l en iv hF [61] (.inr (by decide +kernel)) _ ((k+1)+1) _ _ v.o.ps (by omega) x.o).mono ?_;rintro e w2⟨rfl,hb2⟩;unfold aI;go_wp2_with fail;exact⟨rfl,aR.bad rfl ((H.o.low v.o.mv).trans (hb2.mono (aaK v.o.ps.lt)))⟩
 have I:=O P;clear P G;have hlt2:=aP i (by simp);have x:=O i;clear i;go_wp2_with fail;refine (eZ g tv l en iv hF [61] (.inr (by decide +kernel)) _ ((k+1)+1) _ _ v.o.ps (by omega) x.o).mono ?_;rintro e w2⟨rfl,p2,U⟩;have eY:=O (v.o.ps.aU U kC.o);have l8:=O (v.o.ps.aU U og.o);clear kC og;have a:=O (v.o.step p2 U);clear v;clear p2 U;rcases dO I.o with ⟨D,Q⟩ | ⟨D,rfl⟩
 rotate_left
 ·have Z:=O D;clear D;go_wp2_with fail;refine (gQ g tv l en iv hF [123] (.inr (by decide +kernel)) _ (((k+1)+1)+1) _ _ a.o.ps (by omega) Z.o).mono ?_;rintro e w3⟨rfl,hb3⟩;unfold aI;go_wp2_with fail;exact⟨rfl,aR.bad rfl ((H.o.low a.o.mv).trans (hb3.mono (aaK a.o.ps.lt)))⟩
 have J:=O Q;clear Q I;have hlt3:=aP D (by simp);have Z:=O D;clear D;go_wp2_with fail;refine (eZ g tv l en iv hF [123] (.inr (by decide +kernel)) _ (((k+1)+1)+1) _ _ a.o.ps (by omega) Z.o).mono ?_;rintro e w3⟨rfl,p3,V⟩;have iG:=O (a.o.ps.aU V eY.o);have Np:=O (a.o.ps.aU V l8.o);clear eY l8;have c:=O (a.o.step p3 V);clear a;clear p3 V;rcases dW J.o with ⟨ks4,k4,MG,t,R⟩ | ⟨kb4,t,rfl⟩
 rotate_left
 ·have T:=O t;clear t;go_wp2_with fail;refine (CL m (aaJ _) .param _ ((((k+1)+1)+1)+1) _ _ _ c.o.ps (by omega) (by rw [c.o.len];omega) (by rw [c.o.ns];exact y.o) (by rw [c.o.ns];exact T.o)).mono ?_;rintro e w4⟨rfl,hb4⟩;unfold aI;go_wp2_with fail;exact⟨rfl,aR.bad rfl ((H.o.low c.o.mv).trans hb4)⟩
 have T:=O t;clear t;have K:=O R;clear R J;go_wp2_with fail;refine (CL m (aaJ _) .param _ ((((k+1)+1)+1)+1) _ _ _ c.o.ps (by omega) (by rw [c.o.len];omega) (by rw [c.o.ns];exact y.o) (by rw [c.o.ns];exact T.o)).mono ?_;rintro e w4⟨v4,j5,yH,rfl,A,X,hd4⟩;have L:=O (kI (base':=w.heap.size) A (fun b hb=>Nat.le_trans c.o.mv.size (A.lt b hb).1));clear A hd4;have M:=O (aW T.o (by omega) y.o (Ids.nil _) (by simp));have gl4:=M.o.lo;have gf4:=M.o.few;have ge4:=M.o.le;have gn4:=M.o.len;simp only [Job.reads] at gl4
 have iw:=O (X.blk c.o.ps iG.o (by decide) (by decide));have xL:=O (X.blk c.o.ps Np.o (by decide) (by decide));clear iG Np;have HWF4:=O M.o.wf;have u:=O (c.o.trans X);clear c;clear X;rcases dO K.o with ⟨E,Mj⟩ | ⟨E,rfl⟩
 rotate_left
 ·have Y:=O E;clear E;go_wp2_with fail;refine (gQ g tv l en iv hF [125] (.inr (by decide +kernel)) _ k4 _ _ u.o.ps (by omega) Y.o).mono ?_;rintro e w5⟨rfl,hb5⟩;unfold aI;go_wp2_with fail;exact⟨rfl,aR.bad rfl ((H.o.low u.o.mv).trans (hb5.mono (aaK u.o.ps.lt)))⟩
 have AU:=O Mj;clear Mj K;have hlt5:=aP E (by simp);have Y:=O E;clear E;go_wp2_with fail;refine (eZ g tv l en iv hF [125] (.inr (by decide +kernel)) _ k4 _ _ u.o.ps (by omega) Y.o).mono ?_;rintro e w5⟨rfl,p5,S⟩;have W:=O (u.o.ps.aU S iw.o);have n:=O (u.o.ps.aU S xL.o);clear iw xL;have q:=O (u.o.ps.iI S L.o (by decide) (by decide));clear L;have jX:=O (u.o.step p5 S);clear u;clear p5 S;obtain rfl:=dV AU.o;have fH:=W.o.cell 0;have fQ:=W.o.cell 1;have fT:=W.o.cell 2;have sl0:=W.o.lt;have rD:=n.o.cell 1;have sl1:=n.o.lt;go_wp2_with fail;refine (gB g tv l en iv MG.length 41 _ _ _ (tx l (k+1)) 0 _ ks4 _ (k4+1) _ _ jX.o.ps (kI q.o (fun _ _=>aaL _)) jX.o.len (by omega)).mono ?_;rintro e w6⟨rfl,XB,p6,m6⟩;have rM:=O (jX.o.add p6 m6 (fun b hb=>(q.o.lt b hb).1));clear p6 m6;go_wp2_with fail;go_ret;exact aR.ok rfl rM.o
end
section
variable {g:Nat} {tv:Value} {l:List Tok} {en:Int} {iv:Value} (hF:PF l)
theorem Ut {l:List Tok}(hF:PF l){k:Nat}(h:(tg l k).kind=2):numOf (tx l k) < 10000:=by
 have h1:=hF.kind _ (lN l k (fA h (by simp)));have h2:kind (tx l k)=2:=by unfold tx;rw [h1,h]
 obtain⟨h3,_,h4⟩:=vo _ h2;exact yG _ h4 h3
theorem Oi {l:List Tok}{en:Int}{k c:Nat}{ns b:List Nd}{a:List Int}(d:k≤l.length)(f:Wf ns)(e:sN l en k ns=some (.ok a c b)):Goes l k (k+1) ns a c b:=((xY d f).2 _ e).1 a c b rfl
include hF
theorem FL (w:World)(k:Nat)(xs:List NV)(nv:Value)(r:j6)(h:PS g tv l en iv w k xs nv)(hk:k≤l.length)(hn:xs.length≤k)(Z:Wf (aA xs))(N:sN l en k (aA xs)=some r) :
  Calls Tryz.prog 203 #[.pointer (some ⟨g,0,none⟩)] w (aR g tv l en iv w xs nv r):=by
 have H:=O h;clear h;have uD:=O (At.refl H.o);have HW0:=O Z;clear Z;have hn0:(aA xs).length≤k:=by rw [aD];exact hn
 have y:=hF.len;unfold sN at N
 go_in
 have qm:=O N;clear N;go_wp2_with fail;refine (h_ g tv l en iv _ k _ _ uD.o.ps (by omega) y).mono ?_;rintro e w1⟨rfl,x⟩;have v:=O (uD.o.below x);skip;clear x;have B:=O (aC.new w1 68 #[.int .u8 (tg l k).kind,.string (aM (tx l k)),.int .i64 (pl l en k)]);have j:=O (v.o.alloc (.cells #[.int .u8 (tg l k).kind,.string (aM (tx l k)),.int .i64 (pl l en k)] 68));clear v;rcases gG qm.o with ⟨a,d⟩ | ⟨a,d⟩
 ·skip;have W:=aP a (by simp);have i:=O a;clear a;have c:=O d;clear d;go_wp2_with fail;refine (jg g tv l en iv hF [45] (.inr (by decide +kernel)) _ k _ _ j.o.ps (by omega) i.o).mono ?_;rintro e w3⟨rfl,p3,P⟩;have iG:=O (j.o.ps.aU P B.o);clear B;have m:=O (j.o.step p3 P);clear j;clear p3 P;rcases gH c.o with ⟨u,A⟩ | ⟨u,rfl⟩
  rotate_left
  ·have f:=O u;clear u;go_wp2_with fail;refine (vC g tv l en iv hF _ (k+1) _ _ m.o.ps (by omega) f.o).mono ?_;rintro e w4⟨rfl,L⟩;unfold aI;go_wp2_with fail;exact⟨rfl,aR.bad rfl ((H.o.low m.o.mv).trans (L.mono (aaK m.o.ps.lt)))⟩
  have F:=O A;clear A c;have X:=fA u (by simp);have f:=O u;clear u;go_wp2_with fail;refine (pY g tv l en iv hF _ (k+1) _ _ m.o.ps (by omega) f.o).mono ?_;rintro e w4⟨rfl,p4,Q⟩;have iw:=O (m.o.ps.aU Q iG.o);clear iG;have V:=O (m.o.step p4 Q);clear m;clear p4 Q;unfold jl;have C:=O (iw.o.alloc (.cells #[.int .u8 (tg l (k+1)).kind,.string (aM (tx l (k+1))),.int .i64 (pl l en (k+1))] 68));clear iw;have E8:=O (aC.new w4 68 #[.int .u8 (tg l (k+1)).kind,.string (aM (tx l (k+1))),.int .i64 (pl l en (k+1))]);have I:=O (V.o.alloc (.cells #[.int .u8 (tg l (k+1)).kind,.string (aM (tx l (k+1))),.int .i64 (pl l en (k+1))] 68));clear V;have M:=Ut hF (k:=(k+1)) f.o;obtain rfl:=dV F.o;have fH:=C.o.cell 0;have fQ:=C.o.cell 1;have fT:=C.o.cell 2;have T:=C.o.lt;go_wp2_with fail;refine (gB g tv l en iv (aA xs).length 1 _ _ _ [] (-((numOf (tx l (k+1)):Nat):Int)) _ [] _ ((k+1)+1) _ _ I.o.ps (cB.none_ _) I.o.len (by omega)).mono ?_;rintro e w5⟨rfl,Fu,p5,m5⟩;have S:=O (I.o.add p5 m5 (by intro b K;simp [Value.ownBlock] at K));clear p5 m5;go_wp2_with fail;go_ret;exact aR.ok rfl S.o
 ·skip;have i:=O a;clear a;have c:=O d;clear d;go_wp2_with fail;refine (kN g tv l en iv hF [45] (.inr (by decide +kernel)) _ k _ _ j.o.ps (by omega) i.o).mono ?_;rintro e w6⟨rfl,n⟩;have n_:=O (B.o.below n B.o.lt);clear B;have q:=O (j.o.below n);clear j;clear n;rcases gH c.o with ⟨t,U⟩ | ⟨t,rfl⟩
  rotate_left
  ·have E:=O t;clear t;go_wp2_with fail;refine (vC g tv l en iv hF _ k _ _ q.o.ps (by omega) E.o).mono ?_;rintro e w7⟨rfl,nI⟩;unfold aI;go_wp2_with fail;exact⟨rfl,aR.bad rfl ((H.o.low q.o.mv).trans (nI.mono (aaK q.o.ps.lt)))⟩
  have G:=O U;clear U c;have Y:=fA t (by simp);have E:=O t;clear t;go_wp2_with fail;refine (pY g tv l en iv hF _ k _ _ q.o.ps (by omega) E.o).mono ?_;rintro e w7⟨rfl,p7,R⟩;have kD:=O (q.o.ps.aU R n_.o);clear n_;have o9:=O (q.o.step p7 R);clear q;clear p7 R;unfold jl;have D:=O (kD.o.alloc (.cells #[.int .u8 (tg l k).kind,.string (aM (tx l k)),.int .i64 (pl l en k)] 68));clear kD;have HN7:=O (aC.new w7 68 #[.int .u8 (tg l k).kind,.string (aM (tx l k)),.int .i64 (pl l en k)]);have J:=O (o9.o.alloc (.cells #[.int .u8 (tg l k).kind,.string (aM (tx l k)),.int .i64 (pl l en k)] 68));clear o9;have M:=Ut hF (k:=k) E.o;obtain rfl:=dV G.o;have fH:=D.o.cell 0;have fQ:=D.o.cell 1;have fT:=D.o.cell 2;have T:=D.o.lt;go_wp2_with fail;refine (gB g tv l en iv (aA xs).length 1 _ _ _ [] ((numOf (tx l k):Nat):Int) _ [] _ (k+1) _ _ J.o.ps (cB.none_ _) J.o.len (by omega)).mono ?_;rintro e w8⟨rfl,V_,p8,m8⟩;have S:=O (J.o.add p8 m8 (by intro b K;simp [Value.ownBlock] at K));clear p8 m8;go_wp2_with fail;go_ret;exact aR.ok rfl S.o
end
section
variable {g:Nat} {tv:Value} {l:List Tok} {en:Int} {iv:Value} (hF:PF l)
include hF
theorem OG (m:Nat)(w:World)(k:Nat)(xs:List NV)(nv:Value)(r:j6)(h:PS g tv l en iv w (k+1) xs nv)(hk:k+1≤l.length)(hn:xs.length≤k)(hw:Wf (aA xs))(hr:gI l en m .choose k (aA xs)=some r) :
  Calls Tryz.prog 182 #[.pointer (some ⟨g,0,none⟩),.agg #[.int .u8 (tg l k).kind,.string (aM (tx l k)),.int .i64 (pl l en k)]] w (aR g tv l en iv w xs nv r):=by
 have C:=fun (f:Nat) (_:f≤m) (j:Job) (hj:isFn j=true)=>qd (g:=g) (tv:=tv) (en:=en) (iv:=iv) hF f j hj
 have CL:=fun (f:Nat) (_:f≤m) (e:El)=>pW (g:=g) (tv:=tv) (en:=en) (iv:=iv) hF f e
 have H:=O h;clear h;have L:=O ((At.refl H.o).alloc (.cells #[.int .u8 (tg l k).kind,.string (aM (tx l k)),.int .i64 (pl l en k)] 68));have zl:=O (aC.new w 68 #[.int .u8 (tg l k).kind,.string (aM (tx l k)),.int .i64 (pl l en k)]);have J:=O hw;clear hw;have hn0:(aA xs).length≤k:=by rw [aD];exact hn
 have hlen:=hF.len;unfold gI at hr
 have qm:=O hr;clear hr;go_in
 rcases gH qm.o with ⟨d,W⟩ | ⟨d,rfl⟩
 rotate_left
 ·have xM:=O d;clear d;go_wp2_with fail;refine (mX g tv l en iv hF _ (k+1) _ _ L.o.ps (by omega) xM.o).mono ?_;rintro e w1⟨rfl,hb1⟩;unfold aI;go_wp2_with fail;exact⟨rfl,aR.bad rfl ((H.o.low L.o.mv).trans (hb1.mono (aaK L.o.ps.lt)))⟩
 have R:=O W;clear W qm;have hlt1:=fA d (by simp);have xM:=O d;clear d;go_wp2_with fail;refine (lC g tv l en iv hF _ (k+1) _ _ L.o.ps (by omega) xM.o).mono ?_;rintro e w1⟨rfl,p1,m1⟩;have tN:=O (L.o.ps.aU m1 zl.o);clear zl;have Q:=O (L.o.step p1 m1);clear L;clear p1 m1;unfold jl;have kC:=O (tN.o.alloc (.cells #[.int .u8 (tg l (k+1)).kind,.string (aM (tx l (k+1))),.int .i64 (pl l en (k+1))] 68));clear tN;have og:=O (aC.new w1 68 #[.int .u8 (tg l (k+1)).kind,.string (aM (tx l (k+1))),.int .i64 (pl l en (k+1))]);have D:=O (Q.o.alloc (.cells #[.int .u8 (tg l (k+1)).kind,.string (aM (tx l (k+1))),.int .i64 (pl l en (k+1))] 68));clear Q;rcases dO R.o with ⟨i,X⟩ | ⟨i,rfl⟩
 rotate_left
 ·have G:=O i;clear i;go_wp2_with fail;refine (gQ g tv l en iv hF [58] (.inr (by decide +kernel)) _ ((k+1)+1) _ _ D.o.ps (by omega) G.o).mono ?_;rintro e w2⟨rfl,hb2⟩;unfold aI;go_wp2_with fail;exact⟨rfl,aR.bad rfl ((H.o.low D.o.mv).trans (hb2.mono (aaK D.o.ps.lt)))⟩
 have T:=O X;clear X R;have hlt2:=aP i (by simp);have G:=O i;clear i;go_wp2_with fail;refine (eZ g tv l en iv hF [58] (.inr (by decide +kernel)) _ ((k+1)+1) _ _ D.o.ps (by omega) G.o).mono ?_;rintro e w2⟨rfl,p2,m2⟩;have eY:=O (D.o.ps.aU m2 kC.o);have l8:=O (D.o.ps.aU m2 og.o);clear kC og;have a:=O (D.o.step p2 m2);clear D;clear p2 m2;rcases dW T.o with ⟨Uq,k3,uK,u,Y⟩ | ⟨kb3,u,rfl⟩
 rotate_left
 ·have Fy:=O u;clear u;go_wp2_with fail;refine (FL hF _ (((k+1)+1)+1) _ _ _ a.o.ps (by omega) (by rw [a.o.len];omega) (by rw [a.o.ns];exact J.o) (by rw [a.o.ns];exact Fy.o)).mono ?_;rintro e w3⟨rfl,hb3⟩;unfold aI;go_wp2_with fail;exact⟨rfl,aR.bad rfl ((H.o.low a.o.mv).trans hb3)⟩
 have Fy:=O u;clear u;have U:=O Y;clear Y T;go_wp2_with fail;refine (FL hF _ (((k+1)+1)+1) _ _ _ a.o.ps (by omega) (by rw [a.o.len];omega) (by rw [a.o.ns];exact J.o) (by rw [a.o.ns];exact Fy.o)).mono ?_;rintro e w3⟨rfl,ext3,FM,FK⟩;have P:=O (Oi (by omega) J.o Fy.o);have gl3:=P.o.lo;have gf3:=P.o.few;have ge3:=P.o.le;have gn3:=P.o.len;have iG:=O (FK.blk a.o.ps eY.o (by decide) (by decide));have Np:=O (FK.blk a.o.ps l8.o (by decide) (by decide));clear eY l8;have q:=O P.o.wf;have E:=O (a.o.trans FK);clear a;clear FK;rcases dO U.o with ⟨M,Z⟩ | ⟨M,rfl⟩
 rotate_left
 ·have I:=O M;clear M;go_wp2_with fail;refine (gQ g tv l en iv hF [46,46] (.inr (by decide +kernel)) _ k3 _ _ E.o.ps (by omega) I.o).mono ?_;rintro e w4⟨rfl,hb4⟩;unfold aI;go_wp2_with fail;exact⟨rfl,aR.bad rfl ((H.o.low E.o.mv).trans (hb4.mono (aaK E.o.ps.lt)))⟩
 have V:=O Z;clear Z U;have hlt4:=aP M (by simp);have I:=O M;clear M;go_wp2_with fail;refine (eZ g tv l en iv hF [46,46] (.inr (by decide +kernel)) _ k3 _ _ E.o.ps (by omega) I.o).mono ?_;rintro e w4⟨rfl,p4,m4⟩;have A:=O (E.o.ps.aU m4 iG.o);have xL:=O (E.o.ps.aU m4 Np.o);clear iG Np;have n:=O (E.o.step p4 m4);clear E;clear p4 m4;rcases dW V.o with ⟨ks5,k5,ns5,v,Mj⟩ | ⟨kb5,v,rfl⟩
 rotate_left
 ·have y:=O v;clear v;have fH:=A.o.cell 0;have fQ:=A.o.cell 1;have fT:=A.o.cell 2;have sl0:=A.o.lt;have rD:=xL.o.cell 1;have sl1:=xL.o.lt;go_wp2_with fail;refine wp_region_held_drew (S:=fun B=>B.cell? ⟨w.heap.size,0,none⟩=some (.int .u8 (tg l k).kind)∧B.cell? ⟨w.heap.size,1,none⟩=some (.string (aM (tx l k)))∧B.cell? ⟨w.heap.size,2,none⟩=some (.int .i64 (pl l en k))∧B.cell? ⟨w1.heap.size,1,none⟩=some (.string (aM (tx l (k+1))))) (by kernel_rfl) ⟨fH,fQ,fT,rD⟩ (fun c=>?_);refine bf 0 rfl c ?_;simp only [Act.put,aaA,aaB,aaC];refine bf 1 rfl c ?_;simp only [Act.put,aaA,aaB,aaC];refine bf 2 rfl c ?_;simp only [Act.put,aaA,aaB,aaC];refine bf 3 rfl c ?_;simp only [Act.put,aaA,aaB,aaC];refine bf 4 rfl c ?_;simp only [Act.put,aaA,aaB,aaC];refine bf 5 rfl c ?_;simp only [Act.put,aaA,aaB,aaC];refine wpAnyH_ready (rs:=[6]) (by kernel_rfl) (by simp) ?_;refine fJ (.s (.s (.s (.s (.s (.s .z)))))) (fun K hK=>?_);go_simp;refine (FL hF _ (k3+1) _ _ _ n.o.ps.drew (by omega) (by rw [n.o.len];omega) (by rw [n.o.ns];exact q.o) (by rw [n.o.ns];exact y.o)).mono ?_;rintro e w5⟨rfl,hb5⟩;unfold aI;go_wp2_with fail;exact⟨rfl,aR.bad rfl ((Below.drew (H.o.low n.o.mv)).trans hb5)⟩
 have y:=O v;clear v;have AU:=O Mj;clear Mj V;have x:=O (Oi (by omega) q.o y.o);have gl5:=x.o.lo;have gf5:=x.o.few;have ge5:=x.o.le;have gn5:=x.o.len;have fH:=A.o.cell 0;have fQ:=A.o.cell 1;have fT:=A.o.cell 2;have sl0:=A.o.lt;have rD:=xL.o.cell 1;have sl1:=xL.o.lt;go_wp2_with fail
 go_region_held3 (fun B=>B.cell? ⟨w.heap.size,0,none⟩=some (.int .u8 (tg l k).kind)∧B.cell? ⟨w.heap.size,1,none⟩=some (.string (aM (tx l k)))∧B.cell? ⟨w.heap.size,2,none⟩=some (.int .i64 (pl l en k))∧B.cell? ⟨w1.heap.size,1,none⟩=some (.string (aM (tx l (k+1)))))
  (first | go_keep|(go_split_ands;refine⟨?_,?_,?_,?_⟩ <;> assumption))
  (first
   | (go_at_call 203;refine (FL hF _ (k3+1) _ _ _ n.o.ps.drew (by omega) (by rw [n.o.len];omega) (by rw [n.o.ns];exact q.o) (by rw [n.o.ns];exact y.o)).mono ?_;rintro e w5⟨rfl,ext5,Fu,RO⟩;have F:=O (n.o.drew.trans RO);have N:=RO.blk n.o.ps.drew A.o.drew (by decide) (by decide);have wV:=N.cell 0;have wW:=N.cell 1;have wX:=N.cell 2;have Xx:=N.lt;have Bz:=O N;clear N;have Uc:=RO.blk n.o.ps.drew xL.o.drew (by decide) (by decide);have Zl:=Uc.cell 1;have dl1:=Uc.lt;have YX:=O Uc;clear Uc;have Z4:=F.o.mv.size;clear RO)
   | (go_at_call 204;refine (gB g tv l en iv ns5.length 40 _ _ _ (tx l (k+1)) 0 _ [hd Uq,hd ks5] _ k5 _ _ (F.o.ps.alloc _) (ug w5 (hd Uq) (hd ks5)) F.o.len (by omega)).mono ?_;rintro e w6⟨rfl,XB,p6,m6⟩;have tT:=m6.blk (Bz.o.alloc _) (F.o.ps.tag Bz.o (by decide) (by decide)).1 (F.o.ps.tag Bz.o (by decide) (by decide)).2;have wY:=tT.cell 0;have wZ:=tT.cell 1;have w_:=tT.cell 2;clear tT;have t:=m6.blk (YX.o.alloc _) (F.o.ps.tag YX.o (by decide) (by decide)).1 (F.o.ps.tag YX.o (by decide) (by decide)).2;have Zn:=t.cell 1;clear t;have ow:=O ((At.alloc F.o _).add p6 m6 (by intro b hb;simp [Value.ownBlock] at hb;omega));clear p6 m6))
 all_goals
  obtain rfl:=dV AU.o;go_wp2_with fail;go_ret;exact aR.ok rfl ow.o
end
end Go.Proofs.YthepmkjggfijoaaGreatDoor
