/-
  A part of the proof.
-/
import Derived.Test.YtajfdjikimiapaaGreatDoorS10
set_option linter.all false
set_option maxRecDepth 100000
set_option maxHeartbeats 4000000
namespace Go.Proofs.YtajfdjikimiapaaGreatDoor
open Go.RowKit Mist
attribute [local go_sem] au aN aV aM aG
section
variable {g:Nat} {tv:Value} {l:List Tok} {en:Int} {iv:Value} (hF:PF l)
include hF
theorem Hu (m:Nat)(w:World)(k:Nat)(xs:List NV)(nv:Value)(r:kF)(h:PS g tv l en iv w (k+1) xs nv)(hk:k+1≤l.length)(Y:xs.length≤k)(R:Wf (aj xs))(E:iq l en m .rO k (aj xs)=some r) :
  Calls Tryz.prog 170 #[.pointer (some ⟨g,0,none⟩),.agg #[.int .u8 (tg l k).kind,.string (aU (tx l k)),.int .i64 (pl l en k)]] w (bG g tv l en iv w xs nv r):=by
 have C:=fun (f:Nat) (_:f≤m) (j:Job) (X:isFn j=true)=>ni (g:=g) (tv:=tv) (en:=en) (iv:=iv) hF f j X
 have CL:=fun (f:Nat) (_:f≤m) (e:El)=>ng (g:=g) (tv:=tv) (en:=en) (iv:=iv) hF f e
 have H:=O h;clear h;have t:=O ((At.refl H.o).alloc (.cells #[.int .u8 (tg l k).kind,.string (aU (tx l k)),.int .i64 (pl l en k)] 131));have i:=O (aZ.new w 131 #[.int .u8 (tg l k).kind,.string (aU (tx l k)),.int .i64 (pl l en k)]);have V:=O R;clear R;have Z:(aj xs).length≤k:=by rw [bW];exact Y
 have P:=hF.len;unfold iq at E
 have U:=O E;clear E;go_in
 rcases eO U.o with ⟨d,u⟩ | ⟨d,rfl⟩
 rotate_left
 ·have I:=O d;clear d;have L:=i.o.cell 0;have M:=i.o.cell 1;have N:=i.o.cell 2;have J:=i.o.lt;go_wp2_with fail;refine wp_region_held_drew (S:=fun n=>n.cell? ⟨w.heap.size,0,none⟩=some (.int .u8 (tg l k).kind)∧n.cell? ⟨w.heap.size,1,none⟩=some (.string (aU (tx l k)))∧n.cell? ⟨w.heap.size,2,none⟩=some (.int .i64 (pl l en k))) (by kernel_rfl) ⟨L,M,N⟩ (fun a=>?_);refine aO 0 rfl a ?_;simp only [Act.put,ail,ain,aio];refine aO 1 rfl a ?_;simp only [Act.put,ail,ain,aio];refine aO 2 rfl a ?_;simp only [Act.put,ail,ain,aio];refine wpAnyH_ready (rs:=[3]) (by kernel_rfl) (by simp) ?_;refine fO (.s (.s (.s .z))) (fun K hK=>?_);go_simp;refine (kX g tv l en iv hF _ (k+1) _ _ t.o.ps.drew (by omega) I.o).mono ?_;rintro e w1⟨rfl,D⟩;unfold aX;go_wp2_with fail;exact⟨rfl,bG.bad rfl ((Below.drew (H.o.low t.o.mv)).trans (D.mono (aiw t.o.ps.lt)))⟩
 have Q:=lq d (by simp);have I:=O d;clear d;have A:=O u;clear u U;have tf1:=nA;have L:=i.o.cell 0;have M:=i.o.cell 1;have N:=i.o.cell 2;have J:=i.o.lt;go_wp2_with fail
 go_region_held3 (fun n=>n.cell? ⟨w.heap.size,0,none⟩=some (.int .u8 (tg l k).kind)∧n.cell? ⟨w.heap.size,1,none⟩=some (.string (aU (tx l k)))∧n.cell? ⟨w.heap.size,2,none⟩=some (.int .i64 (pl l en k)))
  (first | go_keep|(go_split_ands;refine⟨?_,?_,?_⟩ <;> assumption))
  (first
   | (go_at_call 194;(with_reducible refine (jy g tv l en iv hF _ (k+1) _ _ t.o.ps.drew (by omega) I.o).mono ?_);rintro e w1⟨rfl,p1,F⟩;unfold g_;have c:=O (t.o.drew.step p1 F);have q:=t.o.ps.drew.bH F i.o.drew;have sV:=q.cell 0;have sW:=q.cell 1;have sZ:=q.cell 2;have Wy:=q.lt;have B:=O q;clear q;have hz1:=c.o.mv.size;clear p1 F)
   | (go_at_call 196;(refine (fV g tv l en iv (aj xs).length 45 _ _ _ (tx l (k+1)) 0 _ [] _ ((k+1)+1) _ _ (c.o.ps) (gX.none_ _) c.o.len (by omega)).mono ?_);rintro e w2⟨rfl,nv2,T,G⟩;have x:=G.blk (B.o) (c.o.ps.tag B.o (by decide) (by decide)).1 (c.o.ps.tag B.o (by decide) (by decide)).2;have tC:=x.cell 0;have tF:=x.cell 1;have tH:=x.cell 2;clear x;have y:=O ((c.o).add T G (by intro b W;simp [Value.ownBlock] at W));clear T G))
 all_goals
  obtain rfl:=dN A.o;go_wp2_with fail;go_ret;exact bG.ok rfl y.o
end
section
variable {g:Nat} {tv:Value} {l:List Tok} {en:Int} {iv:Value} (hF:PF l)
include hF
theorem Ki (m:Nat)(w:World)(k:Nat)(xs:List NV)(nv:Value)(r:kF)(h:PS g tv l en iv w (k+1) xs nv)(hk:k+1≤l.length)(hn:xs.length≤k)(hw:Wf (aj xs))(hr:iq l en m .record k (aj xs)=some r) :
  Calls Tryz.prog 166 #[.pointer (some ⟨g,0,none⟩),.agg #[.int .u8 (tg l k).kind,.string (aU (tx l k)),.int .i64 (pl l en k)]] w (bG g tv l en iv w xs nv r):=by
 have C:=fun (f:Nat) (_:f≤m) (j:Job) (hj:isFn j=true)=>ni (g:=g) (tv:=tv) (en:=en) (iv:=iv) hF f j hj
 have CL:=fun (f:Nat) (_:f≤m) (e:El)=>ng (g:=g) (tv:=tv) (en:=en) (iv:=iv) hF f e
 have H:=O h;clear h;have A:=O ((At.refl H.o).alloc (.cells #[.int .u8 (tg l k).kind,.string (aU (tx l k)),.int .i64 (pl l en k)] 131));have uL:=O (aZ.new w 131 #[.int .u8 (tg l k).kind,.string (aU (tx l k)),.int .i64 (pl l en k)]);have x:=O hw;clear hw;have hn0:(aj xs).length≤k:=by rw [bW];exact hn
 have hlen:=hF.len;unfold iq at hr
 have pF:=O hr;clear hr;go_in
 rcases eO pF.o with ⟨d,P⟩ | ⟨d,rfl⟩
 rotate_left
 ·have sK:=O d;clear d;go_wp2_with fail;refine (kX g tv l en iv hF _ (k+1) _ _ A.o.ps (by omega) sK.o).mono ?_;rintro e w1⟨rfl,hb1⟩;unfold aX;go_wp2_with fail;exact⟨rfl,bG.bad rfl ((H.o.low A.o.mv).trans (hb1.mono (aiw A.o.ps.lt)))⟩
 have F:=O P;clear P pF;have hlt1:=lq d (by simp);have sK:=O d;clear d;go_wp2_with fail;refine (jy g tv l en iv hF _ (k+1) _ _ A.o.ps (by omega) sK.o).mono ?_;rintro e w1⟨rfl,p1,m1⟩;have pR:=O (A.o.ps.bH m1 uL.o);clear uL;have E:=O (A.o.step p1 m1);clear A;clear p1 m1;unfold g_;have iW:=O (pR.o.alloc (.cells #[.int .u8 (tg l (k+1)).kind,.string (aU (tx l (k+1))),.int .i64 (pl l en (k+1))] 131));clear pR;have mO:=O (aZ.new w1 131 #[.int .u8 (tg l (k+1)).kind,.string (aU (tx l (k+1))),.int .i64 (pl l en (k+1))]);have t:=O (E.o.alloc (.cells #[.int .u8 (tg l (k+1)).kind,.string (aU (tx l (k+1))),.int .i64 (pl l en (k+1))] 131));clear E;rcases dI F.o with ⟨i,Q⟩ | ⟨i,rfl⟩
 rotate_left
 ·have u:=O i;clear i;go_wp2_with fail;refine (gy g tv l en iv hF [61] (.inr (by decide +kernel)) _ ((k+1)+1) _ _ t.o.ps (by omega) u.o).mono ?_;rintro e w2⟨rfl,hb2⟩;unfold aX;go_wp2_with fail;exact⟨rfl,bG.bad rfl ((H.o.low t.o.mv).trans (hb2.mono (aiw t.o.ps.lt)))⟩
 have G:=O Q;clear Q F;have hlt2:=dM i (by simp);have u:=O i;clear i;go_wp2_with fail;refine (eu g tv l en iv hF [61] (.inr (by decide +kernel)) _ ((k+1)+1) _ _ t.o.ps (by omega) u.o).mono ?_;rintro e w2⟨rfl,p2,W⟩;have dP:=O (t.o.ps.bH W iW.o);have ku:=O (t.o.ps.bH W mO.o);clear iW mO;have a:=O (t.o.step p2 W);clear t;clear p2 W;rcases dI G.o with ⟨D,R⟩ | ⟨D,rfl⟩
 rotate_left
 ·have LM:=O D;clear D;go_wp2_with fail;refine (gy g tv l en iv hF [123] (.inr (by decide +kernel)) _ (((k+1)+1)+1) _ _ a.o.ps (by omega) LM.o).mono ?_;rintro e w3⟨rfl,hb3⟩;unfold aX;go_wp2_with fail;exact⟨rfl,bG.bad rfl ((H.o.low a.o.mv).trans (hb3.mono (aiw a.o.ps.lt)))⟩
 have I:=O R;clear R G;have hlt3:=dM D (by simp);have LM:=O D;clear D;go_wp2_with fail;refine (eu g tv l en iv hF [123] (.inr (by decide +kernel)) _ (((k+1)+1)+1) _ _ a.o.ps (by omega) LM.o).mono ?_;rintro e w3⟨rfl,p3,X⟩;have iF:=O (a.o.ps.bH X dP.o);have I7:=O (a.o.ps.bH X ku.o);clear dP ku;have c:=O (a.o.step p3 X);clear a;clear p3 X;rcases dO I.o with ⟨ks4,k4,X3,n,S⟩ | ⟨kb4,n,rfl⟩
 rotate_left
 ·have V:=O n;clear n;go_wp2_with fail;refine (CL m (aiv _) .param _ ((((k+1)+1)+1)+1) _ _ _ c.o.ps (by omega) (by rw [c.o.len];omega) (by rw [c.o.ns];exact x.o) (by rw [c.o.ns];exact V.o)).mono ?_;rintro e w4⟨rfl,hb4⟩;unfold aX;go_wp2_with fail;exact⟨rfl,bG.bad rfl ((H.o.low c.o.mv).trans hb4)⟩
 have V:=O n;clear n;have J:=O S;clear S I;go_wp2_with fail;refine (CL m (aiv _) .param _ ((((k+1)+1)+1)+1) _ _ _ c.o.ps (by omega) (by rw [c.o.len];omega) (by rw [c.o.ns];exact x.o) (by rw [c.o.ns];exact V.o)).mono ?_;rintro e w4⟨v4,zi,U4,rfl,y,U,hd4⟩;have K:=O (iC (base':=w.heap.size) y (fun b hb=>Nat.le_trans c.o.mv.size (y.lt b hb).1));clear y hd4;have L:=O (dU V.o (by omega) x.o (Ids.nil _) (by simp));have gl4:=L.o.lo;have gf4:=L.o.few;have ge4:=L.o.le;have gn4:=L.o.len;simp only [Job.reads] at gl4
 have fU:=O (U.blk c.o.ps iF.o (by decide) (by decide));have zX:=O (U.blk c.o.ps I7.o (by decide) (by decide));clear iF I7;have ZH:=O L.o.wf;have q:=O (c.o.trans U);clear c;clear U;rcases dI J.o with ⟨B,J9⟩ | ⟨B,rfl⟩
 rotate_left
 ·have Z:=O B;clear B;go_wp2_with fail;refine (gy g tv l en iv hF [125] (.inr (by decide +kernel)) _ k4 _ _ q.o.ps (by omega) Z.o).mono ?_;rintro e w5⟨rfl,hb5⟩;unfold aX;go_wp2_with fail;exact⟨rfl,bG.bad rfl ((H.o.low q.o.mv).trans (hb5.mono (aiw q.o.ps.lt)))⟩
 have uM:=O J9;clear J9 J;have ac1:=dM B (by simp);have Z:=O B;clear B;go_wp2_with fail;refine (eu g tv l en iv hF [125] (.inr (by decide +kernel)) _ k4 _ _ q.o.ps (by omega) Z.o).mono ?_;rintro e w5⟨rfl,p5,T⟩;have Y:=O (q.o.ps.bH T fU.o);have N:=O (q.o.ps.bH T zX.o);clear fU zX;have M:=O (q.o.ps.lI T K.o (by decide) (by decide));clear K;have lF:=O (q.o.step p5 T);clear q;clear p5 T;obtain rfl:=dN uM.o;have eB:=Y.o.cell 0;have eG:=Y.o.cell 1;have eH:=Y.o.cell 2;have sl0:=Y.o.lt;have qU:=N.o.cell 1;have sl1:=N.o.lt;go_wp2_with fail;refine (fV g tv l en iv X3.length 41 _ _ _ (tx l (k+1)) 0 _ ks4 _ (k4+1) _ _ lF.o.ps (iC M.o (fun _ _=>aix _)) lF.o.len (by omega)).mono ?_;rintro e w6⟨rfl,nv6,p6,m6⟩;have qE:=O (lF.o.add p6 m6 (fun b hb=>(M.o.lt b hb).1));clear p6 m6;go_wp2_with fail;go_ret;exact bG.ok rfl qE.o
end
section
variable {g:Nat} {tv:Value} {l:List Tok} {en:Int} {iv:Value} (hF:PF l)
theorem Qo {l:List Tok}(hF:PF l){k:Nat}(h:(tg l k).kind=2):numOf (tx l k) < 10000:=by
 have h1:=hF.kind _ (Iw l k (lq h (by simp)));have h2:kind (tx l k)=2:=by unfold tx;rw [h1,h]
 obtain⟨h3,_,h4⟩:=Kn _ h2;exact X5 _ h4 h3
theorem JR {l:List Tok}{en:Int}{k c:Nat}{ns b:List Nd}{a:List Int}(d:k≤l.length)(f:Wf ns)(e:Dq l en k ns=some (.ok a c b)):Goes l k (k+1) ns a c b:=((Dh d f).2 _ e).1 a c b rfl
include hF
theorem BL (w:World)(k:Nat)(xs:List NV)(nv:Value)(r:kF)(h:PS g tv l en iv w k xs nv)(hk:k≤l.length)(hn:xs.length≤k)(Y:Wf (aj xs))(P:Dq l en k (aj xs)=some r) :
  Calls Tryz.prog 195 #[.pointer (some ⟨g,0,none⟩)] w (bG g tv l en iv w xs nv r):=by
 have H:=O h;clear h;have sj:=O (At.refl H.o);have HW0:=O Y;clear Y;have hn0:(aj xs).length≤k:=by rw [bW];exact hn
 have A:=hF.len;unfold Dq at P
 go_in
 have pF:=O P;clear P;go_wp2_with fail;refine (gY g tv l en iv _ k _ _ sj.o.ps (by omega) A).mono ?_;rintro e w1⟨rfl,y⟩;have x:=O (sj.o.below y);skip;clear y;have D:=O (aZ.new w1 131 #[.int .u8 (tg l k).kind,.string (aU (tx l k)),.int .i64 (pl l en k)]);have j:=O (x.o.alloc (.cells #[.int .u8 (tg l k).kind,.string (aU (tx l k)),.int .i64 (pl l en k)] 131));clear x;rcases fH pF.o with ⟨a,d⟩ | ⟨a,d⟩
 ·skip;have X:=dM a (by simp);have i:=O a;clear a;have c:=O d;clear d;go_wp2_with fail;refine (jc g tv l en iv hF [45] (.inr (by decide +kernel)) _ k _ _ j.o.ps (by omega) i.o).mono ?_;rintro e w3⟨rfl,p3,Q⟩;have Z:=O (j.o.ps.bH Q D.o);clear D;have m:=O (j.o.step p3 Q);clear j;clear p3 Q;rcases eO c.o with ⟨u,B⟩ | ⟨u,rfl⟩
  rotate_left
  ·have f:=O u;clear u;go_wp2_with fail;refine (uy g tv l en iv hF _ (k+1) _ _ m.o.ps (by omega) f.o).mono ?_;rintro e w4⟨rfl,M⟩;unfold aX;go_wp2_with fail;exact⟨rfl,bG.bad rfl ((H.o.low m.o.mv).trans (M.mono (aiw m.o.ps.lt)))⟩
  have I:=O B;clear B c;have agb:=lq u (by simp);have f:=O u;clear u;go_wp2_with fail;refine (oU g tv l en iv hF _ (k+1) _ _ m.o.ps (by omega) f.o).mono ?_;rintro e w4⟨rfl,p4,R⟩;have V:=O (m.o.ps.bH R Z.o);clear Z;have W:=O (m.o.step p4 R);clear m;clear p4 R;unfold g_;have F:=O (V.o.alloc (.cells #[.int .u8 (tg l (k+1)).kind,.string (aU (tx l (k+1))),.int .i64 (pl l en (k+1))] 131));clear V;have ME:=O (aZ.new w4 131 #[.int .u8 (tg l (k+1)).kind,.string (aU (tx l (k+1))),.int .i64 (pl l en (k+1))]);have J:=O (W.o.alloc (.cells #[.int .u8 (tg l (k+1)).kind,.string (aU (tx l (k+1))),.int .i64 (pl l en (k+1))] 131));clear W;have N:=Qo hF (k:=(k+1)) f.o;obtain rfl:=dN I.o;have eB:=F.o.cell 0;have eG:=F.o.cell 1;have eH:=F.o.cell 2;have U:=F.o.lt;go_wp2_with fail;refine (fV g tv l en iv (aj xs).length 1 _ _ _ [] (-((numOf (tx l (k+1)):Nat):Int)) _ [] _ ((k+1)+1) _ _ J.o.ps (gX.none_ _) J.o.len (by omega)).mono ?_;rintro e w5⟨rfl,nv5,p5,m5⟩;have T:=O (J.o.add p5 m5 (by intro b L;simp [Value.ownBlock] at L));clear p5 m5;go_wp2_with fail;go_ret;exact bG.ok rfl T.o
 ·skip;have i:=O a;clear a;have c:=O d;clear d;go_wp2_with fail;refine (kP g tv l en iv hF [45] (.inr (by decide +kernel)) _ k _ _ j.o.ps (by omega) i.o).mono ?_;rintro e w6⟨rfl,n⟩;have nZ:=O (D.o.below n D.o.lt);clear D;have q:=O (j.o.below n);clear j;clear n;rcases eO c.o with ⟨t,C⟩ | ⟨t,rfl⟩
  rotate_left
  ·have E:=O t;clear t;go_wp2_with fail;refine (uy g tv l en iv hF _ k _ _ q.o.ps (by omega) E.o).mono ?_;rintro e w7⟨rfl,om⟩;unfold aX;go_wp2_with fail;exact⟨rfl,bG.bad rfl ((H.o.low q.o.mv).trans (om.mono (aiw q.o.ps.lt)))⟩
  have UY:=O C;clear C c;have aes:=lq t (by simp);have E:=O t;clear t;go_wp2_with fail;refine (oU g tv l en iv hF _ k _ _ q.o.ps (by omega) E.o).mono ?_;rintro e w7⟨rfl,p7,S⟩;have jE:=O (q.o.ps.bH S nZ.o);clear nZ;have qY:=O (q.o.step p7 S);clear q;clear p7 S;unfold g_;have G:=O (jE.o.alloc (.cells #[.int .u8 (tg l k).kind,.string (aU (tx l k)),.int .i64 (pl l en k)] 131));clear jE;have HN7:=O (aZ.new w7 131 #[.int .u8 (tg l k).kind,.string (aU (tx l k)),.int .i64 (pl l en k)]);have K:=O (qY.o.alloc (.cells #[.int .u8 (tg l k).kind,.string (aU (tx l k)),.int .i64 (pl l en k)] 131));clear qY;have N:=Qo hF (k:=k) E.o;obtain rfl:=dN UY.o;have eB:=G.o.cell 0;have eG:=G.o.cell 1;have eH:=G.o.cell 2;have U:=G.o.lt;go_wp2_with fail;refine (fV g tv l en iv (aj xs).length 1 _ _ _ [] ((numOf (tx l k):Nat):Int) _ [] _ (k+1) _ _ K.o.ps (gX.none_ _) K.o.len (by omega)).mono ?_;rintro e w8⟨rfl,nv8,p8,m8⟩;have T:=O (K.o.add p8 m8 (by intro b L;simp [Value.ownBlock] at L));clear p8 m8;go_wp2_with fail;go_ret;exact bG.ok rfl T.o
end
section
variable {g:Nat} {tv:Value} {l:List Tok} {en:Int} {iv:Value} (hF:PF l)
include hF
theorem Kh (m:Nat)(w:World)(k:Nat)(xs:List NV)(nv:Value)(r:kF)(h:PS g tv l en iv w (k+1) xs nv)(hk:k+1≤l.length)(hn:xs.length≤k)(hw:Wf (aj xs))(hr:iq l en m .choose k (aj xs)=some r) :
  Calls Tryz.prog 165 #[.pointer (some ⟨g,0,none⟩),.agg #[.int .u8 (tg l k).kind,.string (aU (tx l k)),.int .i64 (pl l en k)]] w (bG g tv l en iv w xs nv r):=by
 have C:=fun (f:Nat) (_:f≤m) (j:Job) (hj:isFn j=true)=>ni (g:=g) (tv:=tv) (en:=en) (iv:=iv) hF f j hj
 have CL:=fun (f:Nat) (_:f≤m) (e:El)=>ng (g:=g) (tv:=tv) (en:=en) (iv:=iv) hF f e
 have H:=O h;clear h;have L:=O ((At.refl H.o).alloc (.cells #[.int .u8 (tg l k).kind,.string (aU (tx l k)),.int .i64 (pl l en k)] 131));have uL:=O (aZ.new w 131 #[.int .u8 (tg l k).kind,.string (aU (tx l k)),.int .i64 (pl l en k)]);have I:=O hw;clear hw;have hn0:(aj xs).length≤k:=by rw [bW];exact hn
 have hlen:=hF.len;unfold iq at hr
 have pF:=O hr;clear hr;go_in
 rcases eO pF.o with ⟨d,X⟩ | ⟨d,rfl⟩
 rotate_left
 ·have sK:=O d;clear d;go_wp2_with fail;refine (kX g tv l en iv hF _ (k+1) _ _ L.o.ps (by omega) sK.o).mono ?_;rintro e w1⟨rfl,hb1⟩;unfold aX;go_wp2_with fail;exact⟨rfl,bG.bad rfl ((H.o.low L.o.mv).trans (hb1.mono (aiw L.o.ps.lt)))⟩
 have R:=O X;clear X pF;have hlt1:=lq d (by simp);have sK:=O d;clear d;go_wp2_with fail;refine (jy g tv l en iv hF _ (k+1) _ _ L.o.ps (by omega) sK.o).mono ?_;rintro e w1⟨rfl,p1,m1⟩;have pR:=O (L.o.ps.bH m1 uL.o);clear uL;have Q:=O (L.o.step p1 m1);clear L;clear p1 m1;unfold g_;have iW:=O (pR.o.alloc (.cells #[.int .u8 (tg l (k+1)).kind,.string (aU (tx l (k+1))),.int .i64 (pl l en (k+1))] 131));clear pR;have mO:=O (aZ.new w1 131 #[.int .u8 (tg l (k+1)).kind,.string (aU (tx l (k+1))),.int .i64 (pl l en (k+1))]);have B:=O (Q.o.alloc (.cells #[.int .u8 (tg l (k+1)).kind,.string (aU (tx l (k+1))),.int .i64 (pl l en (k+1))] 131));clear Q;rcases dI R.o with ⟨i,Y⟩ | ⟨i,rfl⟩
 rotate_left
 ·have F:=O i;clear i;go_wp2_with fail;refine (gy g tv l en iv hF [58] (.inr (by decide +kernel)) _ ((k+1)+1) _ _ B.o.ps (by omega) F.o).mono ?_;rintro e w2⟨rfl,hb2⟩;unfold aX;go_wp2_with fail;exact⟨rfl,bG.bad rfl ((H.o.low B.o.mv).trans (hb2.mono (aiw B.o.ps.lt)))⟩
 have T:=O Y;clear Y R;have hlt2:=dM i (by simp);have F:=O i;clear i;go_wp2_with fail;refine (eu g tv l en iv hF [58] (.inr (by decide +kernel)) _ ((k+1)+1) _ _ B.o.ps (by omega) F.o).mono ?_;rintro e w2⟨rfl,p2,m2⟩;have dP:=O (B.o.ps.bH m2 iW.o);have ku:=O (B.o.ps.bH m2 mO.o);clear iW mO;have a:=O (B.o.step p2 m2);clear B;clear p2 m2;rcases dO T.o with ⟨Qk,k3,X0,q,Z⟩ | ⟨kb3,q,rfl⟩
 rotate_left
 ·have yX:=O q;clear q;go_wp2_with fail;refine (BL hF _ (((k+1)+1)+1) _ _ _ a.o.ps (by omega) (by rw [a.o.len];omega) (by rw [a.o.ns];exact I.o) (by rw [a.o.ns];exact yX.o)).mono ?_;rintro e w3⟨rfl,hb3⟩;unfold aX;go_wp2_with fail;exact⟨rfl,bG.bad rfl ((H.o.low a.o.mv).trans hb3)⟩
 have yX:=O q;clear q;have U:=O Z;clear Z T;go_wp2_with fail;refine (BL hF _ (((k+1)+1)+1) _ _ _ a.o.ps (by omega) (by rw [a.o.len];omega) (by rw [a.o.ns];exact I.o) (by rw [a.o.ns];exact yX.o)).mono ?_;rintro e w3⟨rfl,aao,nv3,BK⟩;have P:=O (JR (by omega) I.o yX.o);have gl3:=P.o.lo;have gf3:=P.o.few;have ge3:=P.o.le;have gn3:=P.o.len;have iF:=O (BK.blk a.o.ps dP.o (by decide) (by decide));have I7:=O (BK.blk a.o.ps ku.o (by decide) (by decide));clear dP ku;have J:=O P.o.wf;have D:=O (a.o.trans BK);clear a;clear BK;rcases dI U.o with ⟨M,hr4⟩ | ⟨M,rfl⟩
 rotate_left
 ·have G:=O M;clear M;go_wp2_with fail;refine (gy g tv l en iv hF [46,46] (.inr (by decide +kernel)) _ k3 _ _ D.o.ps (by omega) G.o).mono ?_;rintro e w4⟨rfl,hb4⟩;unfold aX;go_wp2_with fail;exact⟨rfl,bG.bad rfl ((H.o.low D.o.mv).trans (hb4.mono (aiw D.o.ps.lt)))⟩
 have V:=O hr4;clear hr4 U;have agb:=dM M (by simp);have G:=O M;clear M;go_wp2_with fail;refine (eu g tv l en iv hF [46,46] (.inr (by decide +kernel)) _ k3 _ _ D.o.ps (by omega) G.o).mono ?_;rintro e w4⟨rfl,p4,m4⟩;have y:=O (D.o.ps.bH m4 iF.o);have zX:=O (D.o.ps.bH m4 I7.o);clear iF I7;have n:=O (D.o.step p4 m4);clear D;clear p4 m4;rcases dO V.o with ⟨ks5,k5,ns5,t,J9⟩ | ⟨kb5,t,rfl⟩
 rotate_left
 ·have x:=O t;clear t;have eB:=y.o.cell 0;have eG:=y.o.cell 1;have eH:=y.o.cell 2;have sl0:=y.o.lt;have qU:=zX.o.cell 1;have sl1:=zX.o.lt;go_wp2_with fail;refine wp_region_held_drew (S:=fun A=>A.cell? ⟨w.heap.size,0,none⟩=some (.int .u8 (tg l k).kind)∧A.cell? ⟨w.heap.size,1,none⟩=some (.string (aU (tx l k)))∧A.cell? ⟨w.heap.size,2,none⟩=some (.int .i64 (pl l en k))∧A.cell? ⟨w1.heap.size,1,none⟩=some (.string (aU (tx l (k+1))))) (by kernel_rfl) ⟨eB,eG,eH,qU⟩ (fun c=>?_);refine aO 0 rfl c ?_;simp only [Act.put,ail,ain,aio];refine aO 1 rfl c ?_;simp only [Act.put,ail,ain,aio];refine aO 2 rfl c ?_;simp only [Act.put,ail,ain,aio];refine aO 3 rfl c ?_;simp only [Act.put,ail,ain,aio];refine aO 4 rfl c ?_;simp only [Act.put,ail,ain,aio];refine aO 5 rfl c ?_;simp only [Act.put,ail,ain,aio];refine wpAnyH_ready (rs:=[6]) (by kernel_rfl) (by simp) ?_;refine fO (.s (.s (.s (.s (.s (.s .z)))))) (fun K hK=>?_);go_simp;refine (BL hF _ (k3+1) _ _ _ n.o.ps.drew (by omega) (by rw [n.o.len];omega) (by rw [n.o.ns];exact J.o) (by rw [n.o.ns];exact x.o)).mono ?_;rintro e w5⟨rfl,hb5⟩;unfold aX;go_wp2_with fail;exact⟨rfl,bG.bad rfl ((Below.drew (H.o.low n.o.mv)).trans hb5)⟩
 have x:=O t;clear t;have uM:=O J9;clear J9 V;have u:=O (JR (by omega) J.o x.o);have gl5:=u.o.lo;have gf5:=u.o.few;have ge5:=u.o.le;have gn5:=u.o.len;have eB:=y.o.cell 0;have eG:=y.o.cell 1;have eH:=y.o.cell 2;have sl0:=y.o.lt;have qU:=zX.o.cell 1;have sl1:=zX.o.lt;go_wp2_with fail
 go_region_held3 (fun A=>A.cell? ⟨w.heap.size,0,none⟩=some (.int .u8 (tg l k).kind)∧A.cell? ⟨w.heap.size,1,none⟩=some (.string (aU (tx l k)))∧A.cell? ⟨w.heap.size,2,none⟩=some (.int .i64 (pl l en k))∧A.cell? ⟨w1.heap.size,1,none⟩=some (.string (aU (tx l (k+1)))))
  (first | go_keep|(go_split_ands;refine⟨?_,?_,?_,?_⟩ <;> assumption))
  (first
   | (go_at_call 195;refine (BL hF _ (k3+1) _ _ _ n.o.ps.drew (by omega) (by rw [n.o.len];omega) (by rw [n.o.ns];exact J.o) (by rw [n.o.ns];exact x.o)).mono ?_;rintro e w5⟨rfl,aea,nv5,NC⟩;have E:=O (n.o.drew.trans NC);have N:=NC.blk n.o.ps.drew y.o.drew (by decide) (by decide);have sV:=N.cell 0;have sW:=N.cell 1;have sZ:=N.cell 2;have Wy:=N.lt;have wL:=O N;clear N;have P7:=NC.blk n.o.ps.drew zX.o.drew (by decide) (by decide);have Ww:=P7.cell 1;have dl1:=P7.lt;have VY:=O P7;clear P7;have hz5:=E.o.mv.size;clear NC)
   | (go_at_call 196;refine (fV g tv l en iv ns5.length 40 _ _ _ (tx l (k+1)) 0 _ [hd Qk,hd ks5] _ k5 _ _ (E.o.ps.alloc _) (BN w5 (hd Qk) (hd ks5)) E.o.len (by omega)).mono ?_;rintro e w6⟨rfl,nv6,p6,m6⟩;have pW:=m6.blk (wL.o.alloc _) (E.o.ps.tag wL.o (by decide) (by decide)).1 (E.o.ps.tag wL.o (by decide) (by decide)).2;have tC:=pW.cell 0;have tF:=pW.cell 1;have tH:=pW.cell 2;clear pW;have W:=m6.blk (VY.o.alloc _) (E.o.ps.tag VY.o (by decide) (by decide)).1 (E.o.ps.tag VY.o (by decide) (by decide)).2;have Wz:=W.cell 1;clear W;have qX:=O ((At.alloc E.o _).add p6 m6 (by intro b hb;simp [Value.ownBlock] at hb;omega));clear p6 m6))
 all_goals
  obtain rfl:=dN uM.o;go_wp2_with fail;go_ret;exact bG.ok rfl qX.o
end
section
variable {g:Nat} {tv:Value} {l:List Tok} {en:Int} {iv:Value} (hF:PF l)
include hF
theorem SC (m:Nat)(w:World)(k:Nat)(xs:List NV)(nv:Value)(r:kF)(h:PS g tv l en iv w (k+1) xs nv)(hk:k+1≤l.length)(hn:xs.length≤k)(hw:Wf (aj xs))(hr:iq l en m .Ny k (aj xs)=some r) :
  Calls Tryz.prog 167 #[.pointer (some ⟨g,0,none⟩),.agg #[.int .u8 (tg l k).kind,.string (aU (tx l k)),.int .i64 (pl l en k)]] w (bG g tv l en iv w xs nv r):=by
 have C:=fun (f:Nat) (_:f≤m) (j:Job) (hj:isFn j=true)=>ni (g:=g) (tv:=tv) (en:=en) (iv:=iv) hF f j hj
 have CL:=fun (f:Nat) (_:f≤m) (e:El)=>ng (g:=g) (tv:=tv) (en:=en) (iv:=iv) hF f e
 have H:=O h;clear h;have mI:=O ((At.refl H.o).alloc (.cells #[.int .u8 (tg l k).kind,.string (aU (tx l k)),.int .i64 (pl l en k)] 131));have uL:=O (aZ.new w 131 #[.int .u8 (tg l k).kind,.string (aU (tx l k)),.int .i64 (pl l en k)]);have J:=O hw;clear hw;have hn0:(aj xs).length≤k:=by rw [bW];exact hn
 have t:=hF.len;unfold iq at hr
 have pF:=O hr;clear hr;go_in
 obtain⟨i0,hi0,hz0,hz1,hz2⟩:=info_parts mE;rcases eO pF.o with ⟨E,hr1⟩ | ⟨E,rfl⟩
 rotate_left
 ·have sK:=O E;clear E;go_wp2_with fail;refine (kX g tv l en iv hF _ (k+1) _ _ mI.o.ps (by omega) sK.o).mono ?_;rintro e w1⟨rfl,hb1⟩
  (try unfold aX)
  go_wp2_with fail;exact⟨rfl,bG.bad rfl ((H.o.low mI.o.mv).trans (hb1.mono (aiw mI.o.ps.lt)))⟩
 have HR1:=O hr1;clear hr1 pF;have hlt1:=lq E (by simp);have sK:=O E;clear E;go_wp2_with fail;refine (jy g tv l en iv hF _ (k+1) _ _ mI.o.ps (by omega) sK.o).mono ?_;rintro e w1⟨rfl,p1,m1⟩;have pR:=O (mI.o.ps.bH m1 uL.o);clear uL;have HA1:=O (mI.o.step p1 m1);clear mI;clear p1 m1;unfold g_;have iW:=O (pR.o.alloc (.cells #[.int .u8 (tg l (k+1)).kind,.string (aU (tx l (k+1))),.int .i64 (pl l en (k+1))] 131));clear pR;have mO:=O (aZ.new w1 131 #[.int .u8 (tg l (k+1)).kind,.string (aU (tx l (k+1))),.int .i64 (pl l en (k+1))]);have bf:=O (HA1.o.alloc (.cells #[.int .u8 (tg l (k+1)).kind,.string (aU (tx l (k+1))),.int .i64 (pl l en (k+1))] 131));clear HA1;rcases dI HR1.o with ⟨F,hr2⟩ | ⟨F,rfl⟩
 rotate_left
 ·have HE2:=O F;clear F;go_wp2_with fail;refine (gy g tv l en iv hF [40] (.inr (by decide +kernel)) _ ((k+1)+1) _ _ bf.o.ps (by omega) HE2.o).mono ?_;rintro e w2⟨rfl,hb2⟩
  (try unfold aX)
  go_wp2_with fail;exact⟨rfl,bG.bad rfl ((H.o.low bf.o.mv).trans (hb2.mono (aiw bf.o.ps.lt)))⟩
 have HR2:=O hr2;clear hr2 HR1;have hlt2:=dM F (by simp);have HE2:=O F;clear F;go_wp2_with fail;refine (eu g tv l en iv hF [40] (.inr (by decide +kernel)) _ ((k+1)+1) _ _ bf.o.ps (by omega) HE2.o).mono ?_;rintro e w2⟨rfl,p2,m2⟩;have dP:=O (bf.o.ps.bH m2 iW.o);have ku:=O (bf.o.ps.bH m2 mO.o);clear iW mO;have D:=O (bf.o.step p2 m2);clear bf;clear p2 m2;rcases fH HR2.o with ⟨zJ,K⟩ | ⟨zJ,K⟩
 focus
  have hlt3:=dM zJ (by simp);have LM:=O zJ;clear zJ;have V:=O K;clear K;go_wp2_with fail;refine (tN [41] (.inr (by decide +kernel)) g tv l en iv _ (((k+1)+1)+1) _ _ (D.o.alloc _).ps (by omega) t hF.kind _ _ 9 (0,0) (heap_alloc_new _ _) true (by simp [LM.o])).mono ?_;rintro e w27⟨rfl,R7⟩;have Mc:=O ((dP.o.alloc (.cells #[.string (aU [41])] 9)).below R7 (dP.o.alloc (.cells #[.string (aU [41])] 9)).lt);have Md:=O ((ku.o.alloc (.cells #[.string (aU [41])] 9)).below R7 (ku.o.alloc (.cells #[.string (aU [41])] 9)).lt);clear dP ku;have R:=O ((D.o.alloc (.cells #[.string (aU [41])] 9)).below R7);clear D;clear R7;obtain⟨I,hks⟩:∃ l:List Int,l=[]:=⟨_,rfl⟩;obtain⟨n,hq⟩:∃ q:Nat,q=0:=⟨_,rfl⟩;have VO:=O (show w27.ownsRow w.heap.size 3 1 (.slice none 0 0) n (intCells I) from by rw [hq,hks];exact World.ownsRow_nil _ _ _ _);have adL:=O (show I.length=n from by rw [hq,hks];rfl);have abN:n≤0:=by omega
  have VD:=O (ne_nil (ext:=[]));have PG:=J;have i:=V.o;rw [← hks] at i;unfold um at i;have VH:=O i;clear i hks hq
 rotate_left
 focus
  have LM:=O zJ;clear zJ;have V:=O K;clear K;go_wp2_with fail;refine (tN [41] (.inr (by decide +kernel)) g tv l en iv _ (((k+1)+1)+1) _ _ (D.o.alloc _).ps (by omega) t hF.kind _ _ 9 (0,0) (heap_alloc_new _ _) false (by simp [LM.o])).mono ?_;rintro e w26⟨rfl,Y⟩;have Vg:=O ((dP.o.alloc (.cells #[.string (aU [41])] 9)).below Y (dP.o.alloc (.cells #[.string (aU [41])] 9)).lt);have Vh:=O ((ku.o.alloc (.cells #[.string (aU [41])] 9)).below Y (ku.o.alloc (.cells #[.string (aU [41])] 9)).lt);clear dP ku;have y:=O ((D.o.alloc (.cells #[.string (aU [41])] 9)).below Y);clear D;clear Y;rcases dO V.o with ⟨I,k27,ah5,c,aex⟩ | ⟨ah2,c,rfl⟩
  rotate_left
  ·have VU:=O c;clear c;go_wp2_with fail;refine (CL m (aiv _) .param _ (((k+1)+1)+1) _ _ _ y.o.ps (by omega) (by rw [y.o.len];omega) (by rw [y.o.ns];exact J.o) (by rw [y.o.ns];exact VU.o)).mono ?_;rintro e w27⟨rfl,R7⟩
   (try unfold aX)
   go_wp2_with fail;exact⟨rfl,bG.bad rfl ((H.o.low y.o.mv).trans R7)⟩
  have VU:=O c;clear c;have aft:=O aex;clear aex V;go_wp2_with fail;refine (CL m (aiv _) .param _ (((k+1)+1)+1) _ _ _ y.o.ps (by omega) (by rw [y.o.len];omega) (by rw [y.o.ns];exact J.o) (by rw [y.o.ns];exact VU.o)).mono ?_;rintro e w27⟨v27,ad_,aib,rfl,ac5,X,hd27⟩;have VO:=O (iC (base':=w.heap.size) ac5 (fun b hb=>Nat.le_trans y.o.mv.size (ac5.lt b hb).1));clear ac5;have U9:=O (dU VU.o (by omega) J.o (Ids.nil _) (by simp));have afT:=U9.o.lo;have ahA:=U9.o.few;have ahs:=U9.o.le;have ahI:=U9.o.len;simp only [Job.reads] at afT
  have Mc:=O (X.blk y.o.ps Vg.o (by decide) (by decide));have Md:=O (X.blk y.o.ps Vh.o (by decide) (by decide));clear Vg Vh;have PG:=O U9.o.wf;have R:=O (y.o.trans X);clear y;clear X;have VD:=O (show ∀ x ∈ [] ++ ad_,x.2.ownBlock=none∨x.2.ownBlock ≠ v27.ownBlock from hd27);clear hd27;have abN:=XQ (by omega) J.o VU.o;obtain⟨n,ac6⟩:∃ q,q=I.length:=⟨_,rfl⟩;rw [← ac6] at VO abN
  have adL:=O ac6.symm;clear ac6;obtain⟨A27,c27,rfl⟩:=dh VO.o;have i:=aft.o;unfold um at i;have VH:=O i;clear i
 all_goals
  rcases dI VH.o with ⟨Sc,aey⟩ | ⟨Sc,rfl⟩
  rotate_left
  ·have acf:=O Sc;clear Sc;go_wp2_with fail;refine (gy g tv l en iv hF [41] (.inr (by decide +kernel)) _ _ _ _ R.o.ps (by omega) acf.o).mono ?_;rintro e w29⟨rfl,af2⟩
   (try unfold aX)
   go_wp2_with fail;exact⟨rfl,bG.bad rfl ((H.o.low R.o.mv).trans (af2.mono (aiw R.o.ps.lt)))⟩
  have adN:=O aey;clear aey VH;have ahd:=dM Sc (by simp);have acf:=O Sc;clear Sc;go_wp2_with fail;refine (eu g tv l en iv hF [41] (.inr (by decide +kernel)) _ _ _ _ R.o.ps (by omega) acf.o).mono ?_;rintro e w29⟨rfl,p29,L⟩;have Vi:=O (R.o.ps.bH L Mc.o);have Vj:=O (R.o.ps.bH L Md.o);clear Mc Md;have VP:=O (R.o.ps.lI L VO.o (by decide) (by decide));clear VO;have T:=O (R.o.step p29 L);clear R;clear p29 L;rcases dI adN.o with ⟨Sd,aez⟩ | ⟨Sd,rfl⟩
  rotate_left
  ·have acg:=O Sd;clear Sd;go_wp2_with fail;refine (gy g tv l en iv hF [58] (.inr (by decide +kernel)) _ _ _ _ T.o.ps (by omega) acg.o).mono ?_;rintro e w30⟨rfl,af3⟩
   (try unfold aX)
   go_wp2_with fail;exact⟨rfl,bG.bad rfl ((H.o.low T.o.mv).trans (af3.mono (aiw T.o.ps.lt)))⟩
  have adO:=O aez;clear aez adN;have ahe:=dM Sd (by simp);have acg:=O Sd;clear Sd;go_wp2_with fail;refine (eu g tv l en iv hF [58] (.inr (by decide +kernel)) _ _ _ _ T.o.ps (by omega) acg.o).mono ?_;rintro e w30⟨rfl,p30,M⟩;have Vk:=O (T.o.ps.bH M Vi.o);have Vl:=O (T.o.ps.bH M Vj.o);clear Vi Vj;have ML:=O (T.o.ps.lI M VP.o (by decide) (by decide));clear VP;have A:=O (T.o.step p30 M);clear T;clear p30 M;rcases dO adO.o with ⟨Kq,a,ah6,d,aeA⟩ | ⟨ah3,d,rfl⟩
  rotate_left
  ·have ZR:=O d;clear d;go_wp2_with fail;refine (C m (aiv _) .typ rfl _ _ _ _ _ A.o.ps (by omega) (by rw [A.o.len];omega) (by rw [A.o.ns];exact PG.o) (by rw [A.o.ns];exact ZR.o)).mono ?_;rintro e w31⟨rfl,af4⟩
   (try unfold aX)
   go_wp2_with fail;exact⟨rfl,bG.bad rfl ((H.o.low A.o.mv).trans af4)⟩
  have ZR:=O d;clear d;have afu:=O aeA;clear aeA adO;go_wp2_with fail;refine (C m (aiv _) .typ rfl _ _ _ _ _ A.o.ps (by omega) (by rw [A.o.len];omega) (by rw [A.o.ns];exact PG.o) (by rw [A.o.ns];exact ZR.o)).mono ?_;rintro e w31⟨rfl,ag8,aic,RV⟩;have U_:=O (dU ZR.o (by omega) PG.o (Ids.nil _) (by simp));have afU:=U_.o.lo;have ahB:=U_.o.few;have aht:=U_.o.le;have ahJ:=U_.o.len;simp only [Job.reads] at afU
  have ab5:=O (RV.blk A.o.ps Vk.o (by decide) (by decide));have ab6:=O (RV.blk A.o.ps Vl.o (by decide) (by decide));clear Vk Vl;have aby:=O (BO VD.o RV.fresh (fun b hb=>(ML.o.lt b hb).2));clear VD;have Gx:=O (A.o.ps.lI RV.mv ML.o (by decide) (by decide));clear ML;have VT:=O U_.o.wf;have ab2:=O (A.o.trans RV);clear A;clear RV
  go_wp2_with (at_builtin
               refine wpList_append_lies _ rfl (.tmp 22) (.tmp 25) 23 rfl w.heap.size 3 i0 _ 1 8 Tryz.underlying23 hi0 hz0 hz1 hz2 rfl (by decide) _ n (intCells I) rfl
                 (Gx.o.alloc _) ⟨w31.heap.size,0,none⟩ 1 1 [.int .i64 (hd Kq)] rfl rfl (h_ _ _ _) (by intro u hu;simp at hu;subst hu;rfl) (by omega) (by simp only [maxLen];omega) (by omega) (by have:=ab2.o.mv.size;simp;omega) (w31.heap.size+1) (by simp) ?_
               intro afM abE w32 Xd W abJ aei)
  have abz:=O (xC ab2.o.ps aby.o abJ (n+1) abE);clear abJ;have Ch:=O (kV ab5.o Gx.o W (by decide));have Ci:=O (kV ab6.o Gx.o W (by decide));have U:=O ((ab2.o.alloc (.cells #[.int .i64 (hd Kq)] 3)).grown H.o Gx.o (by decide) W aby.o);have ZG:=O (show w32.ownsRow w.heap.size 3 1 (.slice (some ⟨afM,0,none⟩) (n+1) abE) (n+1) (intCells (I ++ [hd Kq])) by rw [iU];exact Xd);clear Xd;have afo:=O (show (I ++ [hd Kq]).length=n+1 by rw [aiA,adL.o];rfl);clear W aei;rcases fH afu.o with ⟨Si,Xh⟩ | ⟨Si,Xh⟩
  focus
   have ahf:=dM Si (by simp);have ach:=O Si;clear Si;have acs:=O Xh;clear Xh;go_wp2_with fail;refine (jc g tv l en iv hF [117,112,116,111] (.inl (by decide +kernel)) _ a _ _ U.o.ps (by omega) ach.o).mono ?_;rintro e w34⟨rfl,p34,N⟩;have Me:=O (U.o.ps.bH N Ch.o);have Mf:=O (U.o.ps.bH N Ci.o);clear Ch Ci;have VQ:=O (U.o.ps.lI N ZG.o (by decide) (by decide));clear ZG;have sI:=O (U.o.step p34 N);clear U;clear p34 N;go_wp2_with fail;refine (gY g tv l en iv _ (a+1) _ _ sI.o.ps (by omega) t).mono ?_;rintro e w35⟨rfl,WY⟩;have Vn:=O (Me.o.below WY Me.o.lt);have Vo:=O (Mf.o.below WY Mf.o.lt);clear Me Mf;have VR:=O (own_below VQ.o WY);clear VQ;have G:=O (sI.o.below WY);clear sI;clear WY;rcases fH acs.o with ⟨Sj,Xi⟩ | ⟨Sj,Xi⟩
   ·skip;have ahg:=dM Sj (by simp);have aci:=O Sj;clear Sj;have ZE:=O Xi;clear Xi;have q0:(tx l (a+1) == [48])=true:=abn _ [48] aci.o;have tf1:=nA;obtain rfl:kF.bad (a+1)=r:=aiB ZE.o;go_wp2_with fail;refine (qI g tv l en iv _ (a+1) _ _ G.o.ps (by omega) t).mono ?_;rintro e wq⟨rfl,hbq⟩
    (try unfold aX)
    go_wp2_with fail;exact⟨rfl,bG.bad rfl ((H.o.low G.o.mv).trans (hbq.mono (aiw G.o.ps.lt)))⟩
   have aci:=O Sj;clear Sj;have ZE:=O Xi;clear Xi;have q0:(tx l (a+1) == [48])=false:=UH _ [48] aci.o;have tf1:=nA;go_wp2_with fail;clear q0;rcases eO ZE.o with ⟨Sk,aeB⟩ | ⟨Sk,rfl⟩
   rotate_left
   ·have acj:=O Sk;clear Sk;refine (uy g tv l en iv hF _ (a+1) _ _ G.o.ps (by omega) acj.o).mono ?_;rintro e w43⟨rfl,af5⟩
    (try unfold aX)
    go_wp2_with fail;exact⟨rfl,bG.bad rfl ((H.o.low G.o.mv).trans (af5.mono (aiw G.o.ps.lt)))⟩
   have afv:=O aeB;clear aeB ZE;have ahh:=lq Sk (by simp);have acj:=O Sk;clear Sk;refine (oU g tv l en iv hF _ (a+1) _ _ G.o.ps (by omega) acj.o).mono ?_;rintro e w43⟨rfl,p37,P⟩;have Mg:=O (G.o.ps.bH P Vn.o);have Mh:=O (G.o.ps.bH P Vo.o);clear Vn Vo;have MO:=O (G.o.ps.lI P VR.o (by decide) (by decide));clear VR;have S:=O (G.o.step p37 P);clear G;clear p37 P;unfold g_;have i:=afv.o;unfold uj at i;have VI:=O i;clear i
  rotate_left
  focus
   have ach:=O Si;clear Si;have acs:=O Xh;clear Xh;go_wp2_with fail;refine (kP g tv l en iv hF [117,112,116,111] (.inl (by decide +kernel)) _ a _ _ U.o.ps (by omega) ach.o).mono ?_;rintro e w43⟨rfl,WZ⟩;have Mg:=O (Ch.o.below WZ Ch.o.lt);have Mh:=O (Ci.o.below WZ Ci.o.lt);clear Ch Ci;have MO:=O (own_below ZG.o WZ);clear ZG;have S:=O (U.o.below WZ);clear U;clear WZ;have i:=acs.o;unfold uj at i;have VI:=O i;clear i
  all_goals
   rcases dI VI.o with ⟨Sm,aeC⟩ | ⟨Sm,rfl⟩
   rotate_left
   ·have acn:=O Sm;clear Sm;go_wp2_with fail;refine (gy g tv l en iv hF [61] (.inr (by decide +kernel)) _ _ _ _ S.o.ps (by omega) acn.o).mono ?_;rintro e w45⟨rfl,af6⟩
    (try unfold aX)
    go_wp2_with fail;exact⟨rfl,bG.bad rfl ((H.o.low S.o.mv).trans (af6.mono (aiw S.o.ps.lt)))⟩
   have adP:=O aeC;clear aeC VI;have ahi:=dM Sm (by simp);have acn:=O Sm;clear Sm;go_wp2_with fail;refine (eu g tv l en iv hF [61] (.inr (by decide +kernel)) _ _ _ _ S.o.ps (by omega) acn.o).mono ?_;rintro e w45⟨rfl,p45,Q⟩;have Vp:=O (S.o.ps.bH Q Mg.o);have Vq:=O (S.o.ps.bH Q Mh.o);clear Mg Mh;have MP:=O (S.o.ps.lI Q MO.o (by decide) (by decide));clear MO;have B:=O (S.o.step p45 Q);clear S;clear p45 Q;rcases dO adP.o with ⟨XK,k46,agF,Xu,aeD⟩ | ⟨ah4,Xu,rfl⟩
   rotate_left
   ·have ZT:=O Xu;clear Xu;go_wp2_with fail;refine (C m (aiv _) .expr rfl _ _ _ _ _ B.o.ps (by omega) (by rw [B.o.len];omega) (by rw [B.o.ns];exact VT.o) (by rw [B.o.ns];exact ZT.o)).mono ?_;rintro e w46⟨rfl,af7⟩
    (try unfold aX)
    go_wp2_with fail;exact⟨rfl,bG.bad rfl ((H.o.low B.o.mv).trans af7)⟩
   have ZT:=O Xu;clear Xu;have afw:=O aeD;clear aeD adP;go_wp2_with fail;refine (C m (aiv _) .expr rfl _ _ _ _ _ B.o.ps (by omega) (by rw [B.o.len];omega) (by rw [B.o.ns];exact VT.o) (by rw [B.o.ns];exact ZT.o)).mono ?_;rintro e w46⟨rfl,ag9,aie,R3⟩;have Va:=O (dU ZT.o (by omega) VT.o (Ids.nil _) (by simp));have afV:=Va.o.lo;have ahC:=Va.o.few;have ahu:=Va.o.le;have ahK:=Va.o.len;simp only [Job.reads] at afV
   have Vr:=O (R3.blk B.o.ps Vp.o (by decide) (by decide));have Vs:=O (R3.blk B.o.ps Vq.o (by decide) (by decide));clear Vp Vq;have abA:=O (BO abz.o R3.fresh (fun b hb=>(MP.o.lt b hb).2));clear abz;have yV:=O (B.o.ps.lI R3.mv MP.o (by decide) (by decide));clear MP;have ag2:=O Va.o.wf;have ab3:=O (B.o.trans R3);clear B;clear R3
   go_wp2_with (at_builtin
                refine wpList_append_lies _ rfl (.tmp 42) (.tmp 45) 23 rfl w.heap.size 3 i0 _ 1 8 Tryz.underlying23 hi0 hz0 hz1 hz2 rfl (by decide) _ (n+1) (intCells (I ++ [hd Kq])) rfl
                  (yV.o.alloc _) ⟨w46.heap.size,0,none⟩ 1 1 [.int .i64 (hd XK)] rfl rfl (h_ _ _ _) (by intro u hu;simp at hu;subst hu;rfl) (by omega) (by simp only [maxLen];omega) (by omega) (by have:=ab3.o.mv.size;simp;omega) (w46.heap.size+1) (by simp) ?_
                intro afN abF w47 Xe Sr abK aej;have Z:=kV Vr.o yV.o Sr (by decide);have ae_:=Z.cell 0;have ae':=Z.cell 1;have afa:=Z.cell 2;have agW:=Z.lt;have bz1:=kV Vs.o yV.o Sr (by decide);have ahj:=bz1.cell 1;have aij:=bz1.lt)
   have agY:=O (xC ab3.o.ps abA.o abK ((n+1)+1) abF);clear abK;have Gj:=O (kV Vr.o yV.o Sr (by decide));have Vt:=O (kV Vs.o yV.o Sr (by decide));have ab4:=O ((ab3.o.alloc (.cells #[.int .i64 (hd XK)] 3)).grown H.o yV.o (by decide) Sr abA.o);have adT:=O (show w47.ownsRow w.heap.size 3 1 (.slice (some ⟨afN,0,none⟩) ((n+1)+1) abF) ((n+1)+1) (intCells ((I ++ [hd Kq]) ++ [hd XK])) by rw [iU];exact Xe);clear Xe;have afp:=O (show ((I ++ [hd Kq]) ++ [hd XK]).length=(n+1)+1 by rw [aiA,afo.o];rfl);clear Sr aej;obtain rfl:=dN afw.o;have eB:=Gj.o.cell 0;have eG:=Gj.o.cell 1;have eH:=Gj.o.cell 2;have sl0:=Gj.o.lt;have qU:=Vt.o.cell 1;have sl1:=Vt.o.lt;refine (fV g tv l en iv agF.length 42 _ _ _ (tx l (k+1)) _ _ ((I ++ [hd Kq]) ++ [hd XK]) _ k46 _ _ ab4.o.ps (XG afp.o adT.o) ab4.o.len (by omega)).mono ?_;rintro e w48⟨rfl,aif,p48,m48⟩;have qE:=O (ab4.o.add p48 m48 (fun b hb=>(adT.o.lt b hb).1));clear p48 m48;go_wp2_with fail;go_ret;exact bG.ok rfl qE.o
end
