/-
  A part of the proof.
-/
import Derived.Test.YtflnfhhgamldhaaGreatDoorS12
set_option linter.all false
set_option maxRecDepth 100000
set_option maxHeartbeats 4000000
namespace Go.Proofs.YtflnfhhgamldhaaGreatDoor
open Go.RowKit Mist
attribute [local go_sem] ah aM aV au ak
section
variable {g:Nat} {tv:Value} {l:List Tok} {en:Int} {iv:Value} (hF:PF l)
include hF
theorem Jv (m:Nat)(w:World)(k:Nat)(xs:List NV)(nv:Value)(r:kX)(h:PS g tv l en iv w (k+1) xs nv)(hk:k+1≤l.length)(X:xs.length≤k)(Q:Wf (aF xs))(D:iq l en m .mD k (aF xs)=some r) :
  Calls Tryz.prog 129 #[.pointer (some ⟨g,0,none⟩),.agg #[.int .u8 (tg l k).kind,.string (aH (tx l k)),.int .i64 (pl l en k)]] w (aZ g tv l en iv w xs nv r):=by
 have C:=fun (f:Nat) (_:f≤m) (j:Job) (W:isFn j=true)=>oG (g:=g) (tv:=tv) (en:=en) (iv:=iv) hF f j W
 have CL:=fun (f:Nat) (_:f≤m) (e:El)=>oz (g:=g) (tv:=tv) (en:=en) (iv:=iv) hF f e
 have H:=O h;clear h;have t:=O ((At.refl H.o).alloc (.cells #[.int .u8 (tg l k).kind,.string (aH (tx l k)),.int .i64 (pl l en k)] 80));have i:=O (bf.new w 80 #[.int .u8 (tg l k).kind,.string (aH (tx l k)),.int .i64 (pl l en k)]);have U:=O Q;clear Q;have Y:(aF xs).length≤k:=by rw [dL];exact X
 have N:=hF.len;unfold iq at D
 have T:=O D;clear D;go_in
 rcases fO T.o with ⟨d,u⟩ | ⟨d,rfl⟩
 rotate_left
 ·have I:=O d;clear d;have J:=i.o.cell 0;have L:=i.o.cell 1;have M:=i.o.cell 2;have G:=i.o.lt;go_wp2_with fail;refine wp_region_held_drew (S:=fun n=>n.cell? ⟨w.heap.size,0,none⟩=some (.int .u8 (tg l k).kind)∧n.cell? ⟨w.heap.size,1,none⟩=some (.string (aH (tx l k)))∧n.cell? ⟨w.heap.size,2,none⟩=some (.int .i64 (pl l en k))) (by kernel_rfl) ⟨J,L,M⟩ (fun a=>?_);refine dB 0 rfl a ?_;simp only [Act.put,akR,akS,akT];refine dB 1 rfl a ?_;simp only [Act.put,akR,akS,akT];refine dB 2 rfl a ?_;simp only [Act.put,akR,akS,akT];refine wpAnyH_ready (rs:=[3]) (by kernel_rfl) (by simp) ?_;refine gN (.s (.s (.s .z))) (fun K hK=>?_);go_simp;refine (mo g tv l en iv hF _ (k+1) _ _ t.o.ps.drew (by omega) I.o).mono ?_;rintro e w1⟨rfl,B⟩;unfold aW;go_wp2_with fail;exact⟨rfl,aZ.bad rfl ((Below.drew (H.o.low t.o.mv)).trans (B.mono (ak1 t.o.ps.lt)))⟩
 have P:=h_ d (by simp);have I:=O d;clear d;have y:=O u;clear u T;have tf1:=l6;have J:=i.o.cell 0;have L:=i.o.cell 1;have M:=i.o.cell 2;have G:=i.o.lt;go_wp2_with fail
 go_region_held3 (fun n=>n.cell? ⟨w.heap.size,0,none⟩=some (.int .u8 (tg l k).kind)∧n.cell? ⟨w.heap.size,1,none⟩=some (.string (aH (tx l k)))∧n.cell? ⟨w.heap.size,2,none⟩=some (.int .i64 (pl l en k)))
  (first | go_keep|(go_split_ands;refine⟨?_,?_,?_⟩ <;> assumption))
  (first
   | (go_at_call 149;(with_reducible refine (kE g tv l en iv hF _ (k+1) _ _ t.o.ps.drew (by omega) I.o).mono ?_);rintro e w1⟨rfl,p1,E⟩;unfold iW;have c:=O (t.o.drew.step p1 E);have q:=t.o.ps.drew.aY E i.o.drew;have uH:=q.cell 0;have uI:=q.cell 1;have uJ:=q.cell 2;have YO:=q.lt;have A:=O q;clear q;have Z:=c.o.mv.size;clear p1 E)
   | (go_at_call 151;(refine (gI g tv l en iv (aF xs).length 45 _ _ _ (tx l (k+1)) 0 _ [] _ ((k+1)+1) _ _ (c.o.ps) (dD.none_ _) c.o.len (by omega)).mono ?_);rintro e w2⟨rfl,Oe,R,F⟩;have v:=F.blk (A.o) (c.o.ps.tag A.o (by decide) (by decide)).1 (c.o.ps.tag A.o (by decide) (by decide)).2;have uL:=v.cell 0;have uM:=v.cell 1;have uN:=v.cell 2;clear v;have x:=O ((c.o).add R F (by intro b V;simp [Value.ownBlock] at V));clear R F))
 all_goals
  obtain rfl:=dW y.o;go_wp2_with fail;go_ret;exact aZ.ok rfl x.o
end
section
variable {g:Nat} {tv:Value} {l:List Tok} {en:Int} {iv:Value} (hF:PF l)
include hF
theorem LZ (m:Nat)(w:World)(k:Nat)(xs:List NV)(nv:Value)(r:kX)(h:PS g tv l en iv w (k+1) xs nv)(hk:k+1≤l.length)(hn:xs.length≤k)(hw:Wf (aF xs))(hr:iq l en m .record k (aF xs)=some r) :
  Calls Tryz.prog 125 #[.pointer (some ⟨g,0,none⟩),.agg #[.int .u8 (tg l k).kind,.string (aH (tx l k)),.int .i64 (pl l en k)]] w (aZ g tv l en iv w xs nv r):=by
 have C:=fun (f:Nat) (_:f≤m) (j:Job) (hj:isFn j=true)=>oG (g:=g) (tv:=tv) (en:=en) (iv:=iv) hF f j hj
 have CL:=fun (f:Nat) (_:f≤m) (e:El)=>oz (g:=g) (tv:=tv) (en:=en) (iv:=iv) hF f e
 have H:=O h;clear h;have y:=O ((At.refl H.o).alloc (.cells #[.int .u8 (tg l k).kind,.string (aH (tx l k)),.int .i64 (pl l en k)] 80));have vL:=O (bf.new w 80 #[.int .u8 (tg l k).kind,.string (aH (tx l k)),.int .i64 (pl l en k)]);have v:=O hw;clear hw;have hn0:(aF xs).length≤k:=by rw [dL];exact hn
 have hlen:=hF.len;unfold iq at hr
 have qV:=O hr;clear hr;go_in
 rcases fO qV.o with ⟨d,N⟩ | ⟨d,rfl⟩
 rotate_left
 ·have um:=O d;clear d;go_wp2_with fail;refine (mo g tv l en iv hF _ (k+1) _ _ y.o.ps (by omega) um.o).mono ?_;rintro e w1⟨rfl,hb1⟩;unfold aW;go_wp2_with fail;exact⟨rfl,aZ.bad rfl ((H.o.low y.o.mv).trans (hb1.mono (ak1 y.o.ps.lt)))⟩
 have E:=O N;clear N qV;have hlt1:=h_ d (by simp);have um:=O d;clear d;go_wp2_with fail;refine (kE g tv l en iv hF _ (k+1) _ _ y.o.ps (by omega) um.o).mono ?_;rintro e w1⟨rfl,p1,m1⟩;have qU:=O (y.o.ps.aY m1 vL.o);clear vL;have D:=O (y.o.step p1 m1);clear y;clear p1 m1;unfold iW;have jP:=O (qU.o.alloc (.cells #[.int .u8 (tg l (k+1)).kind,.string (aH (tx l (k+1))),.int .i64 (pl l en (k+1))] 80));clear qU;have nP:=O (bf.new w1 80 #[.int .u8 (tg l (k+1)).kind,.string (aH (tx l (k+1))),.int .i64 (pl l en (k+1))]);have t:=O (D.o.alloc (.cells #[.int .u8 (tg l (k+1)).kind,.string (aH (tx l (k+1))),.int .i64 (pl l en (k+1))] 80));clear D;rcases dP E.o with ⟨i,P⟩ | ⟨i,rfl⟩
 rotate_left
 ·have u:=O i;clear i;go_wp2_with fail;refine (f_ g tv l en iv hF [61] (.inr (by decide +kernel)) _ ((k+1)+1) _ _ t.o.ps (by omega) u.o).mono ?_;rintro e w2⟨rfl,hb2⟩;unfold aW;go_wp2_with fail;exact⟨rfl,aZ.bad rfl ((H.o.low t.o.mv).trans (hb2.mono (ak1 t.o.ps.lt)))⟩
 have F:=O P;clear P E;have hlt2:=cB i (by simp);have u:=O i;clear i;go_wp2_with fail;refine (eP g tv l en iv hF [61] (.inr (by decide +kernel)) _ ((k+1)+1) _ _ t.o.ps (by omega) u.o).mono ?_;rintro e w2⟨rfl,p2,V⟩;have eH:=O (t.o.ps.aY V jP.o);have lq:=O (t.o.ps.aY V nP.o);clear jP nP;have a:=O (t.o.step p2 V);clear t;clear p2 V;rcases dP F.o with ⟨A,Q⟩ | ⟨A,rfl⟩
 rotate_left
 ·have Z:=O A;clear A;go_wp2_with fail;refine (f_ g tv l en iv hF [123] (.inr (by decide +kernel)) _ (((k+1)+1)+1) _ _ a.o.ps (by omega) Z.o).mono ?_;rintro e w3⟨rfl,hb3⟩;unfold aW;go_wp2_with fail;exact⟨rfl,aZ.bad rfl ((H.o.low a.o.mv).trans (hb3.mono (ak1 a.o.ps.lt)))⟩
 have G:=O Q;clear Q F;have hlt3:=cB A (by simp);have Z:=O A;clear A;go_wp2_with fail;refine (eP g tv l en iv hF [123] (.inr (by decide +kernel)) _ (((k+1)+1)+1) _ _ a.o.ps (by omega) Z.o).mono ?_;rintro e w3⟨rfl,p3,W⟩;have jr:=O (a.o.ps.aY W eH.o);have Kr:=O (a.o.ps.aY W lq.o);clear eH lq;have c:=O (a.o.step p3 W);clear a;clear p3 W;rcases dY G.o with ⟨ks4,k4,Sk,n,R⟩ | ⟨kb4,n,rfl⟩
 rotate_left
 ·have U:=O n;clear n;go_wp2_with fail;refine (CL m (ak0 _) .param _ ((((k+1)+1)+1)+1) _ _ _ c.o.ps (by omega) (by rw [c.o.len];omega) (by rw [c.o.ns];exact v.o) (by rw [c.o.ns];exact U.o)).mono ?_;rintro e w4⟨rfl,hb4⟩;unfold aW;go_wp2_with fail;exact⟨rfl,aZ.bad rfl ((H.o.low c.o.mv).trans hb4)⟩
 have U:=O n;clear n;have I:=O R;clear R G;go_wp2_with fail;refine (CL m (ak0 _) .param _ ((((k+1)+1)+1)+1) _ _ _ c.o.ps (by omega) (by rw [c.o.len];omega) (by rw [c.o.ns];exact v.o) (by rw [c.o.ns];exact U.o)).mono ?_;rintro e w4⟨v4,zT,F9,rfl,x,T,hd4⟩;have J:=O (jm (base':=w.heap.size) x (fun b hb=>Nat.le_trans c.o.mv.size (x.lt b hb).1));clear x hd4;have K:=O (dG U.o (by omega) v.o (Ids.nil _) (by simp));have gl4:=K.o.lo;have gf4:=K.o.few;have ge4:=K.o.le;have gn4:=K.o.len;simp only [Job.reads] at gl4
 have gL:=O (T.blk c.o.ps jr.o (by decide) (by decide));have uj:=O (T.blk c.o.ps Kr.o (by decide) (by decide));clear jr Kr;have abz:=O K.o.wf;have q:=O (c.o.trans T);clear c;clear T;rcases dP I.o with ⟨B,Jq⟩ | ⟨B,rfl⟩
 rotate_left
 ·have Y:=O B;clear B;go_wp2_with fail;refine (f_ g tv l en iv hF [125] (.inr (by decide +kernel)) _ k4 _ _ q.o.ps (by omega) Y.o).mono ?_;rintro e w5⟨rfl,hb5⟩;unfold aW;go_wp2_with fail;exact⟨rfl,aZ.bad rfl ((H.o.low q.o.mv).trans (hb5.mono (ak1 q.o.ps.lt)))⟩
 have wY:=O Jq;clear Jq I;have aeZ:=cB B (by simp);have Y:=O B;clear B;go_wp2_with fail;refine (eP g tv l en iv hF [125] (.inr (by decide +kernel)) _ k4 _ _ q.o.ps (by omega) Y.o).mono ?_;rintro e w5⟨rfl,p5,S⟩;have X:=O (q.o.ps.aY S gL.o);have L:=O (q.o.ps.aY S uj.o);clear gL uj;have M:=O (q.o.ps.iV S J.o (by decide) (by decide));clear J;have mF:=O (q.o.step p5 S);clear q;clear p5 S;obtain rfl:=dW wY.o;have fA:=X.o.cell 0;have fH:=X.o.cell 1;have fI:=X.o.cell 2;have sl0:=X.o.lt;have pV:=L.o.cell 1;have sl1:=L.o.lt;go_wp2_with fail;refine (gI g tv l en iv Sk.length 41 _ _ _ (tx l (k+1)) 0 _ ks4 _ (k4+1) _ _ mF.o.ps (jm M.o (fun _ _=>ak2 _)) mF.o.len (by omega)).mono ?_;rintro e w6⟨rfl,nv6,p6,m6⟩;have qg:=O (mF.o.add p6 m6 (fun b hb=>(M.o.lt b hb).1));clear p6 m6;go_wp2_with fail;go_ret;exact aZ.ok rfl qg.o
end
section
variable {g:Nat} {tv:Value} {l:List Tok} {en:Int} {iv:Value} (hF:PF l)
theorem Sl {l:List Tok}(hF:PF l){k:Nat}(h:(tg l k).kind=2):numOf (tx l k) < 10000:=by
 have h1:=hF.kind _ (tu l k (h_ h (by simp)));have h2:kind (tx l k)=2:=by unfold tx;rw [h1,h]
 obtain⟨h3,_,h4⟩:=uT _ h2;exact yN _ h4 h3
theorem Lm {l:List Tok}{en:Int}{k c:Nat}{ns b:List Nd}{a:List Int}(d:k≤l.length)(f:Wf ns)(e:uR l en k ns=some (.ok a c b)):Goes l k (k+1) ns a c b:=((yw d f).2 _ e).1 a c b rfl
include hF
theorem Cr (w:World)(k:Nat)(xs:List NV)(nv:Value)(r:kX)(h:PS g tv l en iv w k xs nv)(hk:k≤l.length)(hn:xs.length≤k)(W:Wf (aF xs))(M:uR l en k (aF xs)=some r) :
  Calls Tryz.prog 150 #[.pointer (some ⟨g,0,none⟩)] w (aZ g tv l en iv w xs nv r):=by
 have H:=O h;clear h;have tQ:=O (At.refl H.o);have HW0:=O W;clear W;have hn0:(aF xs).length≤k:=by rw [dL];exact hn
 have y:=hF.len;unfold uR at M
 go_in
 have qV:=O M;clear M;go_wp2_with fail;refine (iQ g tv l en iv _ k _ _ tQ.o.ps (by omega) y).mono ?_;rintro e w1⟨rfl,x⟩;have v:=O (tQ.o.below x);skip;clear x;have B:=O (bf.new w1 80 #[.int .u8 (tg l k).kind,.string (aH (tx l k)),.int .i64 (pl l en k)]);have j:=O (v.o.alloc (.cells #[.int .u8 (tg l k).kind,.string (aH (tx l k)),.int .i64 (pl l en k)] 80));clear v;rcases fT qV.o with ⟨a,d⟩ | ⟨a,d⟩
 ·skip;have V:=cB a (by simp);have i:=O a;clear a;have c:=O d;clear d;go_wp2_with fail;refine (jI g tv l en iv hF [45] (.inr (by decide +kernel)) _ k _ _ j.o.ps (by omega) i.o).mono ?_;rintro e w3⟨rfl,p3,N⟩;have Z:=O (j.o.ps.aY N B.o);clear B;have m:=O (j.o.step p3 N);clear j;clear p3 N;rcases fO c.o with ⟨u,A⟩ | ⟨u,rfl⟩
  rotate_left
  ·have f:=O u;clear u;go_wp2_with fail;refine (sw g tv l en iv hF _ (k+1) _ _ m.o.ps (by omega) f.o).mono ?_;rintro e w4⟨rfl,K⟩;unfold aW;go_wp2_with fail;exact⟨rfl,aZ.bad rfl ((H.o.low m.o.mv).trans (K.mono (ak1 m.o.ps.lt)))⟩
  have F:=O A;clear A c;have aiu:=h_ u (by simp);have f:=O u;clear u;go_wp2_with fail;refine (oD g tv l en iv hF _ (k+1) _ _ m.o.ps (by omega) f.o).mono ?_;rintro e w4⟨rfl,p4,P⟩;have U:=O (m.o.ps.aY P Z.o);clear Z;have X:=O (m.o.step p4 P);clear m;clear p4 P;unfold iW;have D:=O (U.o.alloc (.cells #[.int .u8 (tg l (k+1)).kind,.string (aH (tx l (k+1))),.int .i64 (pl l en (k+1))] 80));clear U;have OD:=O (bf.new w4 80 #[.int .u8 (tg l (k+1)).kind,.string (aH (tx l (k+1))),.int .i64 (pl l en (k+1))]);have G:=O (X.o.alloc (.cells #[.int .u8 (tg l (k+1)).kind,.string (aH (tx l (k+1))),.int .i64 (pl l en (k+1))] 80));clear X;have L:=Sl hF (k:=(k+1)) f.o;obtain rfl:=dW F.o;have fA:=D.o.cell 0;have fH:=D.o.cell 1;have fI:=D.o.cell 2;have S:=D.o.lt;go_wp2_with fail;refine (gI g tv l en iv (aF xs).length 1 _ _ _ [] (-((numOf (tx l (k+1)):Nat):Int)) _ [] _ ((k+1)+1) _ _ G.o.ps (dD.none_ _) G.o.len (by omega)).mono ?_;rintro e w5⟨rfl,Sn,p5,m5⟩;have R:=O (G.o.add p5 m5 (by intro b J;simp [Value.ownBlock] at J));clear p5 m5;go_wp2_with fail;go_ret;exact aZ.ok rfl R.o
 ·skip;have i:=O a;clear a;have c:=O d;clear d;go_wp2_with fail;refine (kY g tv l en iv hF [45] (.inr (by decide +kernel)) _ k _ _ j.o.ps (by omega) i.o).mono ?_;rintro e w6⟨rfl,n⟩;have nG:=O (B.o.below n B.o.lt);clear B;have q:=O (j.o.below n);clear j;clear n;rcases fO c.o with ⟨t,T⟩ | ⟨t,rfl⟩
  rotate_left
  ·have C:=O t;clear t;go_wp2_with fail;refine (sw g tv l en iv hF _ k _ _ q.o.ps (by omega) C.o).mono ?_;rintro e w7⟨rfl,pF⟩;unfold aW;go_wp2_with fail;exact⟨rfl,aZ.bad rfl ((H.o.low q.o.mv).trans (pF.mono (ak1 q.o.ps.lt)))⟩
  have OJ:=O T;clear T c;have ae0:=h_ t (by simp);have C:=O t;clear t;go_wp2_with fail;refine (oD g tv l en iv hF _ k _ _ q.o.ps (by omega) C.o).mono ?_;rintro e w7⟨rfl,p7,Q⟩;have Y:=O (q.o.ps.aY Q nG.o);clear nG;have nR:=O (q.o.step p7 Q);clear q;clear p7 Q;unfold iW;have E:=O (Y.o.alloc (.cells #[.int .u8 (tg l k).kind,.string (aH (tx l k)),.int .i64 (pl l en k)] 80));clear Y;have HN7:=O (bf.new w7 80 #[.int .u8 (tg l k).kind,.string (aH (tx l k)),.int .i64 (pl l en k)]);have I:=O (nR.o.alloc (.cells #[.int .u8 (tg l k).kind,.string (aH (tx l k)),.int .i64 (pl l en k)] 80));clear nR;have L:=Sl hF (k:=k) C.o;obtain rfl:=dW OJ.o;have fA:=E.o.cell 0;have fH:=E.o.cell 1;have fI:=E.o.cell 2;have S:=E.o.lt;go_wp2_with fail;refine (gI g tv l en iv (aF xs).length 1 _ _ _ [] ((numOf (tx l k):Nat):Int) _ [] _ (k+1) _ _ I.o.ps (dD.none_ _) I.o.len (by omega)).mono ?_;rintro e w8⟨rfl,U7,p8,m8⟩;have R:=O (I.o.add p8 m8 (by intro b J;simp [Value.ownBlock] at J));clear p8 m8;go_wp2_with fail;go_ret;exact aZ.ok rfl R.o
end
section
variable {g:Nat} {tv:Value} {l:List Tok} {en:Int} {iv:Value} (hF:PF l)
include hF
theorem LY (m:Nat)(w:World)(k:Nat)(xs:List NV)(nv:Value)(r:kX)(h:PS g tv l en iv w (k+1) xs nv)(hk:k+1≤l.length)(hn:xs.length≤k)(hw:Wf (aF xs))(hr:iq l en m .choose k (aF xs)=some r) :
  Calls Tryz.prog 124 #[.pointer (some ⟨g,0,none⟩),.agg #[.int .u8 (tg l k).kind,.string (aH (tx l k)),.int .i64 (pl l en k)]] w (aZ g tv l en iv w xs nv r):=by
 have C:=fun (f:Nat) (_:f≤m) (j:Job) (hj:isFn j=true)=>oG (g:=g) (tv:=tv) (en:=en) (iv:=iv) hF f j hj
 have CL:=fun (f:Nat) (_:f≤m) (e:El)=>oz (g:=g) (tv:=tv) (en:=en) (iv:=iv) hF f e
 have H:=O h;clear h;have J:=O ((At.refl H.o).alloc (.cells #[.int .u8 (tg l k).kind,.string (aH (tx l k)),.int .i64 (pl l en k)] 80));have vL:=O (bf.new w 80 #[.int .u8 (tg l k).kind,.string (aH (tx l k)),.int .i64 (pl l en k)]);have G:=O hw;clear hw;have hn0:(aF xs).length≤k:=by rw [dL];exact hn
 have hlen:=hF.len;unfold iq at hr
 have qV:=O hr;clear hr;go_in
 rcases fO qV.o with ⟨d,W⟩ | ⟨d,rfl⟩
 rotate_left
 ·have um:=O d;clear d;go_wp2_with fail;refine (mo g tv l en iv hF _ (k+1) _ _ J.o.ps (by omega) um.o).mono ?_;rintro e w1⟨rfl,hb1⟩;unfold aW;go_wp2_with fail;exact⟨rfl,aZ.bad rfl ((H.o.low J.o.mv).trans (hb1.mono (ak1 J.o.ps.lt)))⟩
 have Q:=O W;clear W qV;have hlt1:=h_ d (by simp);have um:=O d;clear d;go_wp2_with fail;refine (kE g tv l en iv hF _ (k+1) _ _ J.o.ps (by omega) um.o).mono ?_;rintro e w1⟨rfl,p1,m1⟩;have qU:=O (J.o.ps.aY m1 vL.o);clear vL;have P:=O (J.o.step p1 m1);clear J;clear p1 m1;unfold iW;have jP:=O (qU.o.alloc (.cells #[.int .u8 (tg l (k+1)).kind,.string (aH (tx l (k+1))),.int .i64 (pl l en (k+1))] 80));clear qU;have nP:=O (bf.new w1 80 #[.int .u8 (tg l (k+1)).kind,.string (aH (tx l (k+1))),.int .i64 (pl l en (k+1))]);have A:=O (P.o.alloc (.cells #[.int .u8 (tg l (k+1)).kind,.string (aH (tx l (k+1))),.int .i64 (pl l en (k+1))] 80));clear P;rcases dP Q.o with ⟨i,X⟩ | ⟨i,rfl⟩
 rotate_left
 ·have E:=O i;clear i;go_wp2_with fail;refine (f_ g tv l en iv hF [58] (.inr (by decide +kernel)) _ ((k+1)+1) _ _ A.o.ps (by omega) E.o).mono ?_;rintro e w2⟨rfl,hb2⟩;unfold aW;go_wp2_with fail;exact⟨rfl,aZ.bad rfl ((H.o.low A.o.mv).trans (hb2.mono (ak1 A.o.ps.lt)))⟩
 have R:=O X;clear X Q;have hlt2:=cB i (by simp);have E:=O i;clear i;go_wp2_with fail;refine (eP g tv l en iv hF [58] (.inr (by decide +kernel)) _ ((k+1)+1) _ _ A.o.ps (by omega) E.o).mono ?_;rintro e w2⟨rfl,p2,m2⟩;have eH:=O (A.o.ps.aY m2 jP.o);have lq:=O (A.o.ps.aY m2 nP.o);clear jP nP;have a:=O (A.o.step p2 m2);clear A;clear p2 m2;rcases dY R.o with ⟨Sd,k3,AB,q,Y⟩ | ⟨kb3,q,rfl⟩
 rotate_left
 ·have Ck:=O q;clear q;go_wp2_with fail;refine (Cr hF _ (((k+1)+1)+1) _ _ _ a.o.ps (by omega) (by rw [a.o.len];omega) (by rw [a.o.ns];exact G.o) (by rw [a.o.ns];exact Ck.o)).mono ?_;rintro e w3⟨rfl,hb3⟩;unfold aW;go_wp2_with fail;exact⟨rfl,aZ.bad rfl ((H.o.low a.o.mv).trans hb3)⟩
 have Ck:=O q;clear q;have T:=O Y;clear Y R;go_wp2_with fail;refine (Cr hF _ (((k+1)+1)+1) _ _ _ a.o.ps (by omega) (by rw [a.o.len];omega) (by rw [a.o.ns];exact G.o) (by rw [a.o.ns];exact Ck.o)).mono ?_;rintro e w3⟨rfl,ab0,Km,FU⟩;have N:=O (Lm (by omega) G.o Ck.o);have gl3:=N.o.lo;have gf3:=N.o.few;have ge3:=N.o.le;have gn3:=N.o.len;have jr:=O (FU.blk a.o.ps eH.o (by decide) (by decide));have Kr:=O (FU.blk a.o.ps lq.o (by decide) (by decide));clear eH lq;have I:=O N.o.wf;have B:=O (a.o.trans FU);clear a;clear FU;rcases dP T.o with ⟨L,Z⟩ | ⟨L,rfl⟩
 rotate_left
 ·have F:=O L;clear L;go_wp2_with fail;refine (f_ g tv l en iv hF [46,46] (.inr (by decide +kernel)) _ k3 _ _ B.o.ps (by omega) F.o).mono ?_;rintro e w4⟨rfl,hb4⟩;unfold aW;go_wp2_with fail;exact⟨rfl,aZ.bad rfl ((H.o.low B.o.mv).trans (hb4.mono (ak1 B.o.ps.lt)))⟩
 have U:=O Z;clear Z T;have aiu:=cB L (by simp);have F:=O L;clear L;go_wp2_with fail;refine (eP g tv l en iv hF [46,46] (.inr (by decide +kernel)) _ k3 _ _ B.o.ps (by omega) F.o).mono ?_;rintro e w4⟨rfl,p4,m4⟩;have x:=O (B.o.ps.aY m4 jr.o);have uj:=O (B.o.ps.aY m4 Kr.o);clear jr Kr;have n:=O (B.o.step p4 m4);clear B;clear p4 m4;rcases dY U.o with ⟨ks5,k5,ns5,t,Jq⟩ | ⟨kb5,t,rfl⟩
 rotate_left
 ·have v:=O t;clear t;have fA:=x.o.cell 0;have fH:=x.o.cell 1;have fI:=x.o.cell 2;have sl0:=x.o.lt;have pV:=uj.o.cell 1;have sl1:=uj.o.lt;go_wp2_with fail;refine wp_region_held_drew (S:=fun y=>y.cell? ⟨w.heap.size,0,none⟩=some (.int .u8 (tg l k).kind)∧y.cell? ⟨w.heap.size,1,none⟩=some (.string (aH (tx l k)))∧y.cell? ⟨w.heap.size,2,none⟩=some (.int .i64 (pl l en k))∧y.cell? ⟨w1.heap.size,1,none⟩=some (.string (aH (tx l (k+1))))) (by kernel_rfl) ⟨fA,fH,fI,pV⟩ (fun c=>?_);refine dB 0 rfl c ?_;simp only [Act.put,akR,akS,akT];refine dB 1 rfl c ?_;simp only [Act.put,akR,akS,akT];refine dB 2 rfl c ?_;simp only [Act.put,akR,akS,akT];refine dB 3 rfl c ?_;simp only [Act.put,akR,akS,akT];refine dB 4 rfl c ?_;simp only [Act.put,akR,akS,akT];refine dB 5 rfl c ?_;simp only [Act.put,akR,akS,akT];refine wpAnyH_ready (rs:=[6]) (by kernel_rfl) (by simp) ?_;refine gN (.s (.s (.s (.s (.s (.s .z)))))) (fun K hK=>?_);go_simp;refine (Cr hF _ (k3+1) _ _ _ n.o.ps.drew (by omega) (by rw [n.o.len];omega) (by rw [n.o.ns];exact I.o) (by rw [n.o.ns];exact v.o)).mono ?_;rintro e w5⟨rfl,hb5⟩;unfold aW;go_wp2_with fail;exact⟨rfl,aZ.bad rfl ((Below.drew (H.o.low n.o.mv)).trans hb5)⟩
 have v:=O t;clear t;have wY:=O Jq;clear Jq U;have u:=O (Lm (by omega) I.o v.o);have gl5:=u.o.lo;have gf5:=u.o.few;have ge5:=u.o.le;have gn5:=u.o.len;have fA:=x.o.cell 0;have fH:=x.o.cell 1;have fI:=x.o.cell 2;have sl0:=x.o.lt;have pV:=uj.o.cell 1;have sl1:=uj.o.lt;go_wp2_with fail
 go_region_held3 (fun y=>y.cell? ⟨w.heap.size,0,none⟩=some (.int .u8 (tg l k).kind)∧y.cell? ⟨w.heap.size,1,none⟩=some (.string (aH (tx l k)))∧y.cell? ⟨w.heap.size,2,none⟩=some (.int .i64 (pl l en k))∧y.cell? ⟨w1.heap.size,1,none⟩=some (.string (aH (tx l (k+1)))))
  (first | go_keep|(go_split_ands;refine⟨?_,?_,?_,?_⟩ <;> assumption))
  (first
   | (go_at_call 150;refine (Cr hF _ (k3+1) _ _ _ n.o.ps.drew (by omega) (by rw [n.o.len];omega) (by rw [n.o.ns];exact I.o) (by rw [n.o.ns];exact v.o)).mono ?_;rintro e w5⟨rfl,agd,Sn,PE⟩;have D:=O (n.o.drew.trans PE);have M:=PE.blk n.o.ps.drew x.o.drew (by decide) (by decide);have uH:=M.cell 0;have uI:=M.cell 1;have uJ:=M.cell 2;have YO:=M.lt;have xM:=O M;clear M;have RJ:=PE.blk n.o.ps.drew uj.o.drew (by decide) (by decide);have YM:=RJ.cell 1;have dl1:=RJ.lt;have Yn:=O RJ;clear RJ;have Zv:=D.o.mv.size;clear PE)
   | (go_at_call 151;refine (gI g tv l en iv ns5.length 40 _ _ _ (tx l (k+1)) 0 _ [hd Sd,hd ks5] _ k5 _ _ (D.o.ps.alloc _) (Cu w5 (hd Sd) (hd ks5)) D.o.len (by omega)).mono ?_;rintro e w6⟨rfl,nv6,p6,m6⟩;have qX:=m6.blk (xM.o.alloc _) (D.o.ps.tag xM.o (by decide) (by decide)).1 (D.o.ps.tag xM.o (by decide) (by decide)).2;have uL:=qX.cell 0;have uM:=qX.cell 1;have uN:=qX.cell 2;clear qX;have V:=m6.blk (Yn.o.alloc _) (D.o.ps.tag Yn.o (by decide) (by decide)).1 (D.o.ps.tag Yn.o (by decide) (by decide)).2;have YP:=V.cell 1;clear V;have pR:=O ((At.alloc D.o _).add p6 m6 (by intro b hb;simp [Value.ownBlock] at hb;omega));clear p6 m6))
 all_goals
  obtain rfl:=dW wY.o;go_wp2_with fail;go_ret;exact aZ.ok rfl pR.o
end
