/-
  A part of the proof.
-/
import Derived.Test.YtalghggmkojblaaGreatDoorS14
set_option linter.all false
set_option maxRecDepth 100000
set_option maxHeartbeats 4000000
namespace Go.Proofs.YtalghggmkojblaaGreatDoor
open Go.RowKit Mist
attribute [local go_sem] ak aN aV aF aj
section
variable {g:Nat} {tv:Value} {l:List Tok} {en:Int} {iv:Value} (hF:PF l)
include hF
theorem Xx (m:Nat)(w:World)(k:Nat)(xs:List NV)(nv:Value)(r:j5)(h:PS g tv l en iv w (k+1) xs nv)(hk:k+1≤l.length)(hn:xs.length≤k)(hw:Wf (aH xs))(hr:jg l en m .Lg k (aH xs)=some r) :
  Calls Tryz.prog 136 #[.pointer (some ⟨g,0,none⟩),.agg #[.int .u8 (tg l k).kind,.string (aG (tx l k)),.int .i64 (pl l en k)]] w (bG g tv l en iv w xs nv r):=by
 have C:=fun (f:Nat) (_:f≤m) (j:Job) (hj:isFn j=true)=>oD (g:=g) (tv:=tv) (en:=en) (iv:=iv) hF f j hj
 have CL:=fun (f:Nat) (_:f≤m) (e:El)=>oC (g:=g) (tv:=tv) (en:=en) (iv:=iv) hF f e
 have H:=O h;clear h;have A:=O ((At.refl H.o).alloc (.cells #[.int .u8 (tg l k).kind,.string (aG (tx l k)),.int .i64 (pl l en k)] 112));have xg:=O (bY.new w 112 #[.int .u8 (tg l k).kind,.string (aG (tx l k)),.int .i64 (pl l en k)]);have y:=O hw;clear hw;have hn0:(aH xs).length≤k:=by rw [dK];exact hn
 have hlen:=hF.len;unfold jg at hr
 have qX:=O hr;clear hr;go_in
 rcases gy qX.o with ⟨d,G⟩ | ⟨d,rfl⟩
 rotate_left
 ·have uh:=O d;clear d;go_wp2_with fail;refine (mo g tv l en iv hF _ (k+1) _ _ A.o.ps (by omega) uh.o).mono ?_;rintro e w1⟨rfl,X⟩;unfold aY;go_wp2_with fail;exact⟨rfl,bG.bad rfl ((H.o.low A.o.mv).trans (X.mono (amM A.o.ps.lt)))⟩
 have E:=O G;clear G qX;have hlt1:=mH d (by simp);have uh:=O d;clear d;go_wp2_with fail;refine (kE g tv l en iv hF _ (k+1) _ _ A.o.ps (by omega) uh.o).mono ?_;rintro e w1⟨rfl,p1,m1⟩;have rE:=O (A.o.ps.bH m1 xg.o);clear xg;have D:=O (A.o.step p1 m1);clear A;clear p1 m1;unfold jc;have jQ:=O (rE.o.alloc (.cells #[.int .u8 (tg l (k+1)).kind,.string (aG (tx l (k+1))),.int .i64 (pl l en (k+1))] 112));clear rE;have nT:=O (bY.new w1 112 #[.int .u8 (tg l (k+1)).kind,.string (aG (tx l (k+1))),.int .i64 (pl l en (k+1))]);have u:=O (D.o.alloc (.cells #[.int .u8 (tg l (k+1)).kind,.string (aG (tx l (k+1))),.int .i64 (pl l en (k+1))] 112));clear D;rcases dN E.o with ⟨i,I⟩ | ⟨i,rfl⟩
 rotate_left
 ·have x:=O i;clear i;go_wp2_with fail;refine (iy g tv l en iv hF [61] (.inr (by decide +kernel)) _ ((k+1)+1) _ _ u.o.ps (by omega) x.o).mono ?_;rintro e w2⟨rfl,Y⟩;unfold aY;go_wp2_with fail;exact⟨rfl,bG.bad rfl ((H.o.low u.o.mv).trans (Y.mono (amM u.o.ps.lt)))⟩
 have F:=O I;clear I E;have hlt2:=dR i (by simp);have x:=O i;clear i;go_wp2_with fail;refine (fO g tv l en iv hF [61] (.inr (by decide +kernel)) _ ((k+1)+1) _ _ u.o.ps (by omega) x.o).mono ?_;rintro e w2⟨rfl,p2,P⟩;have q:=O (u.o.ps.bH P jQ.o);have L:=O (u.o.ps.bH P nT.o);clear jQ nT;have a:=O (u.o.step p2 P);clear u;clear p2 P;rcases dW F.o with ⟨Vj,k3,Ze,n,J⟩ | ⟨kb3,n,rfl⟩
 rotate_left
 ·have M:=O n;clear n;have fP:=q.o.cell 0;have fZ:=q.o.cell 1;have f_:=q.o.cell 2;have sl0:=q.o.lt;have tL:=L.o.cell 1;have sl1:=L.o.lt;go_wp2_with fail;refine wp_region_held_drew (S:=fun t=>t.cell? ⟨w.heap.size,0,none⟩=some (.int .u8 (tg l k).kind)∧t.cell? ⟨w.heap.size,1,none⟩=some (.string (aG (tx l k)))∧t.cell? ⟨w.heap.size,2,none⟩=some (.int .i64 (pl l en k))∧t.cell? ⟨w1.heap.size,1,none⟩=some (.string (aG (tx l (k+1))))) (by kernel_rfl) ⟨fP,fZ,f_,tL⟩ (fun c=>?_);refine cB 0 rfl c ?_;simp only [Act.put,amC,amD,amE];refine cB 1 rfl c ?_;simp only [Act.put,amC,amD,amE];refine cB 2 rfl c ?_;simp only [Act.put,amC,amD,amE];refine cB 3 rfl c ?_;simp only [Act.put,amC,amD,amE];refine cB 4 rfl c ?_;simp only [Act.put,amC,amD,amE];refine wpAnyH_ready (rs:=[5]) (by kernel_rfl) (by simp) ?_;refine gM (.s (.s (.s (.s (.s .z))))) (fun K hK=>?_);go_simp;refine (C m (amL _) .expr rfl _ (((k+1)+1)+1) _ _ _ a.o.ps.drew (by omega) (by rw [a.o.len];omega) (by rw [a.o.ns];exact y.o) (by rw [a.o.ns];exact M.o)).mono ?_;rintro e w3⟨rfl,Z⟩;unfold aY;go_wp2_with fail;exact⟨rfl,bG.bad rfl ((Below.drew (H.o.low a.o.mv)).trans Z)⟩
 have M:=O n;clear n;have W:=O J;clear J F;have N:=O (eG M.o (by omega) y.o (Ids.nil _) (by simp));have Za:=N.o.lo;have gf3:=N.o.few;have ge3:=N.o.le;have gn3:=N.o.len;simp only [Job.reads] at Za
 have fP:=q.o.cell 0;have fZ:=q.o.cell 1;have f_:=q.o.cell 2;have sl0:=q.o.lt;have tL:=L.o.cell 1;have sl1:=L.o.lt;go_wp2_with fail
 go_region_held3 (fun t=>t.cell? ⟨w.heap.size,0,none⟩=some (.int .u8 (tg l k).kind)∧t.cell? ⟨w.heap.size,1,none⟩=some (.string (aG (tx l k)))∧t.cell? ⟨w.heap.size,2,none⟩=some (.int .i64 (pl l en k))∧t.cell? ⟨w1.heap.size,1,none⟩=some (.string (aG (tx l (k+1)))))
  (first | go_keep|(go_split_ands;refine⟨?_,?_,?_,?_⟩ <;> assumption))
  (first
   | (go_at_call 174;refine (C m (amL _) .expr rfl _ (((k+1)+1)+1) _ _ _ a.o.ps.drew (by omega) (by rw [a.o.len];omega) (by rw [a.o.ns];exact y.o) (by rw [a.o.ns];exact M.o)).mono ?_;rintro e w3⟨rfl,adV,Ll,T⟩;have v:=O (a.o.drew.trans T);have B:=T.blk a.o.ps.drew q.o.drew (by decide) (by decide);have vI:=B.cell 0;have vJ:=B.cell 1;have vK:=B.cell 2;have dl0:=B.lt;have qx:=O B;clear B;have U:=T.blk a.o.ps.drew L.o.drew (by decide) (by decide);have aaL:=U.cell 1;have dl1:=U.lt;have V:=O U;clear U;have hz3:=v.o.mv.size;clear T)
   | (go_at_call 168;refine (h_ g tv l en iv Ze.length 43 _ _ _ (tx l (k+1)) 0 _ [hd Vj] _ k3 _ _ (v.o.ps.alloc _) (rQ w3 (hd Vj)) v.o.len (by omega)).mono ?_;rintro e w4⟨rfl,Ed,p4,Q⟩;have R:=Q.blk (qx.o.alloc _) (v.o.ps.tag qx.o (by decide) (by decide)).1 (v.o.ps.tag qx.o (by decide) (by decide)).2;have vL:=R.cell 0;have vM:=R.cell 1;have vN:=R.cell 2;clear R;have NA:=Q.blk (V.o.alloc _) (v.o.ps.tag V.o (by decide) (by decide)).1 (v.o.ps.tag V.o (by decide) (by decide)).2;have aaN:=NA.cell 1;clear NA;have iw:=O ((At.alloc v.o _).add p4 Q (by intro b hb;simp [Value.ownBlock] at hb;omega));clear p4 Q))
 all_goals
  obtain rfl:=dS W.o;go_wp2_with fail;go_ret;exact bG.ok rfl iw.o
end
section
variable {g:Nat} {tv:Value} {l:List Tok} {en:Int} {iv:Value} (hF:PF l)
include hF
theorem Lc (m:Nat)(w:World)(k:Nat)(xs:List NV)(nv:Value)(r:j5)(h:PS g tv l en iv w (k+1) xs nv)(hk:k+1≤l.length)(hn:xs.length≤k)(hw:Wf (aH xs))(hr:jg l en m .observe k (aH xs)=some r) :
  Calls Tryz.prog 137 #[.pointer (some ⟨g,0,none⟩),.agg #[.int .u8 (tg l k).kind,.string (aG (tx l k)),.int .i64 (pl l en k)]] w (bG g tv l en iv w xs nv r):=by
 have C:=fun (f:Nat) (_:f≤m) (j:Job) (hj:isFn j=true)=>oD (g:=g) (tv:=tv) (en:=en) (iv:=iv) hF f j hj
 have CL:=fun (f:Nat) (_:f≤m) (e:El)=>oC (g:=g) (tv:=tv) (en:=en) (iv:=iv) hF f e
 have H:=O h;clear h;have A:=O ((At.refl H.o).alloc (.cells #[.int .u8 (tg l k).kind,.string (aG (tx l k)),.int .i64 (pl l en k)] 112));have xg:=O (bY.new w 112 #[.int .u8 (tg l k).kind,.string (aG (tx l k)),.int .i64 (pl l en k)]);have y:=O hw;clear hw;have hn0:(aH xs).length≤k:=by rw [dK];exact hn
 have hlen:=hF.len;unfold jg at hr
 have qX:=O hr;clear hr;go_in
 rcases gy qX.o with ⟨d,G⟩ | ⟨d,rfl⟩
 rotate_left
 ·have uh:=O d;clear d;go_wp2_with fail;refine (mo g tv l en iv hF _ (k+1) _ _ A.o.ps (by omega) uh.o).mono ?_;rintro e w1⟨rfl,X⟩;unfold aY;go_wp2_with fail;exact⟨rfl,bG.bad rfl ((H.o.low A.o.mv).trans (X.mono (amM A.o.ps.lt)))⟩
 have E:=O G;clear G qX;have hlt1:=mH d (by simp);have uh:=O d;clear d;go_wp2_with fail;refine (kE g tv l en iv hF _ (k+1) _ _ A.o.ps (by omega) uh.o).mono ?_;rintro e w1⟨rfl,p1,m1⟩;have rE:=O (A.o.ps.bH m1 xg.o);clear xg;have D:=O (A.o.step p1 m1);clear A;clear p1 m1;unfold jc;have jQ:=O (rE.o.alloc (.cells #[.int .u8 (tg l (k+1)).kind,.string (aG (tx l (k+1))),.int .i64 (pl l en (k+1))] 112));clear rE;have nT:=O (bY.new w1 112 #[.int .u8 (tg l (k+1)).kind,.string (aG (tx l (k+1))),.int .i64 (pl l en (k+1))]);have u:=O (D.o.alloc (.cells #[.int .u8 (tg l (k+1)).kind,.string (aG (tx l (k+1))),.int .i64 (pl l en (k+1))] 112));clear D;rcases dN E.o with ⟨i,I⟩ | ⟨i,rfl⟩
 rotate_left
 ·have x:=O i;clear i;go_wp2_with fail;refine (iy g tv l en iv hF [58] (.inr (by decide +kernel)) _ ((k+1)+1) _ _ u.o.ps (by omega) x.o).mono ?_;rintro e w2⟨rfl,Y⟩;unfold aY;go_wp2_with fail;exact⟨rfl,bG.bad rfl ((H.o.low u.o.mv).trans (Y.mono (amM u.o.ps.lt)))⟩
 have F:=O I;clear I E;have hlt2:=dR i (by simp);have x:=O i;clear i;go_wp2_with fail;refine (fO g tv l en iv hF [58] (.inr (by decide +kernel)) _ ((k+1)+1) _ _ u.o.ps (by omega) x.o).mono ?_;rintro e w2⟨rfl,p2,P⟩;have q:=O (u.o.ps.bH P jQ.o);have L:=O (u.o.ps.bH P nT.o);clear jQ nT;have a:=O (u.o.step p2 P);clear u;clear p2 P;rcases dW F.o with ⟨Vj,k3,Ze,n,J⟩ | ⟨kb3,n,rfl⟩
 rotate_left
 ·have M:=O n;clear n;have fP:=q.o.cell 0;have fZ:=q.o.cell 1;have f_:=q.o.cell 2;have sl0:=q.o.lt;have tL:=L.o.cell 1;have sl1:=L.o.lt;go_wp2_with fail;refine wp_region_held_drew (S:=fun t=>t.cell? ⟨w.heap.size,0,none⟩=some (.int .u8 (tg l k).kind)∧t.cell? ⟨w.heap.size,1,none⟩=some (.string (aG (tx l k)))∧t.cell? ⟨w.heap.size,2,none⟩=some (.int .i64 (pl l en k))∧t.cell? ⟨w1.heap.size,1,none⟩=some (.string (aG (tx l (k+1))))) (by kernel_rfl) ⟨fP,fZ,f_,tL⟩ (fun c=>?_);refine cB 0 rfl c ?_;simp only [Act.put,amC,amD,amE];refine cB 1 rfl c ?_;simp only [Act.put,amC,amD,amE];refine cB 2 rfl c ?_;simp only [Act.put,amC,amD,amE];refine cB 3 rfl c ?_;simp only [Act.put,amC,amD,amE];refine cB 4 rfl c ?_;simp only [Act.put,amC,amD,amE];refine wpAnyH_ready (rs:=[5]) (by kernel_rfl) (by simp) ?_;refine gM (.s (.s (.s (.s (.s .z))))) (fun K hK=>?_);go_simp;refine (C m (amL _) .expr rfl _ (((k+1)+1)+1) _ _ _ a.o.ps.drew (by omega) (by rw [a.o.len];omega) (by rw [a.o.ns];exact y.o) (by rw [a.o.ns];exact M.o)).mono ?_;rintro e w3⟨rfl,Z⟩;unfold aY;go_wp2_with fail;exact⟨rfl,bG.bad rfl ((Below.drew (H.o.low a.o.mv)).trans Z)⟩
 have M:=O n;clear n;have W:=O J;clear J F;have N:=O (eG M.o (by omega) y.o (Ids.nil _) (by simp));have Za:=N.o.lo;have gf3:=N.o.few;have ge3:=N.o.le;have gn3:=N.o.len;simp only [Job.reads] at Za
 have fP:=q.o.cell 0;have fZ:=q.o.cell 1;have f_:=q.o.cell 2;have sl0:=q.o.lt;have tL:=L.o.cell 1;have sl1:=L.o.lt;go_wp2_with fail
 go_region_held3 (fun t=>t.cell? ⟨w.heap.size,0,none⟩=some (.int .u8 (tg l k).kind)∧t.cell? ⟨w.heap.size,1,none⟩=some (.string (aG (tx l k)))∧t.cell? ⟨w.heap.size,2,none⟩=some (.int .i64 (pl l en k))∧t.cell? ⟨w1.heap.size,1,none⟩=some (.string (aG (tx l (k+1)))))
  (first | go_keep|(go_split_ands;refine⟨?_,?_,?_,?_⟩ <;> assumption))
  (first
   | (go_at_call 174;refine (C m (amL _) .expr rfl _ (((k+1)+1)+1) _ _ _ a.o.ps.drew (by omega) (by rw [a.o.len];omega) (by rw [a.o.ns];exact y.o) (by rw [a.o.ns];exact M.o)).mono ?_;rintro e w3⟨rfl,adV,Ll,T⟩;have v:=O (a.o.drew.trans T);have B:=T.blk a.o.ps.drew q.o.drew (by decide) (by decide);have vI:=B.cell 0;have vJ:=B.cell 1;have vK:=B.cell 2;have dl0:=B.lt;have qx:=O B;clear B;have U:=T.blk a.o.ps.drew L.o.drew (by decide) (by decide);have aaL:=U.cell 1;have dl1:=U.lt;have V:=O U;clear U;have hz3:=v.o.mv.size;clear T)
   | (go_at_call 168;refine (h_ g tv l en iv Ze.length 44 _ _ _ (tx l (k+1)) 0 _ [hd Vj] _ k3 _ _ (v.o.ps.alloc _) (rQ w3 (hd Vj)) v.o.len (by omega)).mono ?_;rintro e w4⟨rfl,Ed,p4,Q⟩;have R:=Q.blk (qx.o.alloc _) (v.o.ps.tag qx.o (by decide) (by decide)).1 (v.o.ps.tag qx.o (by decide) (by decide)).2;have vL:=R.cell 0;have vM:=R.cell 1;have vN:=R.cell 2;clear R;have NA:=Q.blk (V.o.alloc _) (v.o.ps.tag V.o (by decide) (by decide)).1 (v.o.ps.tag V.o (by decide) (by decide)).2;have aaN:=NA.cell 1;clear NA;have iw:=O ((At.alloc v.o _).add p4 Q (by intro b hb;simp [Value.ownBlock] at hb;omega));clear p4 Q))
 all_goals
  obtain rfl:=dS W.o;go_wp2_with fail;go_ret;exact bG.ok rfl iw.o
end
section
variable {g:Nat} {tv:Value} {l:List Tok} {en:Int} {iv:Value} (hF:PF l)
include hF
theorem Ld (m:Nat)(w:World)(k:Nat)(xs:List NV)(nv:Value)(r:j5)(h:PS g tv l en iv w (k+1) xs nv)(hk:k+1≤l.length)(Y:xs.length≤k)(Q:Wf (aH xs))(D:jg l en m .uG k (aH xs)=some r) :
  Calls Tryz.prog 138 #[.pointer (some ⟨g,0,none⟩),.agg #[.int .u8 (tg l k).kind,.string (aG (tx l k)),.int .i64 (pl l en k)]] w (bG g tv l en iv w xs nv r):=by
 have C:=fun (f:Nat) (_:f≤m) (j:Job) (X:isFn j=true)=>oD (g:=g) (tv:=tv) (en:=en) (iv:=iv) hF f j X
 have CL:=fun (f:Nat) (_:f≤m) (e:El)=>oC (g:=g) (tv:=tv) (en:=en) (iv:=iv) hF f e
 have H:=O h;clear h;have u:=O ((At.refl H.o).alloc (.cells #[.int .u8 (tg l k).kind,.string (aG (tx l k)),.int .i64 (pl l en k)] 112));have i:=O (bY.new w 112 #[.int .u8 (tg l k).kind,.string (aG (tx l k)),.int .i64 (pl l en k)]);have U:=O Q;clear Q;have Z:(aH xs).length≤k:=by rw [dK];exact Y
 have N:=hF.len;unfold jg at D
 have T:=O D;clear D;go_in
 rcases gy T.o with ⟨d,v⟩ | ⟨d,rfl⟩
 rotate_left
 ·have I:=O d;clear d;have J:=i.o.cell 0;have L:=i.o.cell 1;have M:=i.o.cell 2;have G:=i.o.lt;go_wp2_with fail;refine wp_region_held_drew (S:=fun q=>q.cell? ⟨w.heap.size,0,none⟩=some (.int .u8 (tg l k).kind)∧q.cell? ⟨w.heap.size,1,none⟩=some (.string (aG (tx l k)))∧q.cell? ⟨w.heap.size,2,none⟩=some (.int .i64 (pl l en k))) (by kernel_rfl) ⟨J,L,M⟩ (fun a=>?_);refine cB 0 rfl a ?_;simp only [Act.put,amC,amD,amE];refine cB 1 rfl a ?_;simp only [Act.put,amC,amD,amE];refine cB 2 rfl a ?_;simp only [Act.put,amC,amD,amE];refine wpAnyH_ready (rs:=[3]) (by kernel_rfl) (by simp) ?_;refine gM (.s (.s (.s .z))) (fun K hK=>?_);go_simp;refine (mo g tv l en iv hF _ (k+1) _ _ u.o.ps.drew (by omega) I.o).mono ?_;rintro e w1⟨rfl,B⟩;unfold aY;go_wp2_with fail;exact⟨rfl,bG.bad rfl ((Below.drew (H.o.low u.o.mv)).trans (B.mono (amM u.o.ps.lt)))⟩
 have P:=mH d (by simp);have I:=O d;clear d;have A:=O v;clear v T;have tf1:=oG;have J:=i.o.cell 0;have L:=i.o.cell 1;have M:=i.o.cell 2;have G:=i.o.lt;go_wp2_with fail
 go_region_held3 (fun q=>q.cell? ⟨w.heap.size,0,none⟩=some (.int .u8 (tg l k).kind)∧q.cell? ⟨w.heap.size,1,none⟩=some (.string (aG (tx l k)))∧q.cell? ⟨w.heap.size,2,none⟩=some (.int .i64 (pl l en k)))
  (first | go_keep|(go_split_ands;refine⟨?_,?_,?_⟩ <;> assumption))
  (first
   | (go_at_call 166;(with_reducible refine (kE g tv l en iv hF _ (k+1) _ _ u.o.ps.drew (by omega) I.o).mono ?_);rintro e w1⟨rfl,p1,E⟩;unfold jc;have c:=O (u.o.drew.step p1 E);have t:=u.o.ps.drew.bH E i.o.drew;have vI:=t.cell 0;have vJ:=t.cell 1;have vK:=t.cell 2;have V:=t.lt;have n:=O t;clear t;have hz1:=c.o.mv.size;clear p1 E)
   | (go_at_call 168;(refine (h_ g tv l en iv (aH xs).length 45 _ _ _ (tx l (k+1)) 0 _ [] _ ((k+1)+1) _ _ (c.o.ps) (dw.none_ _) c.o.len (by omega)).mono ?_);rintro e w2⟨rfl,Cx,R,F⟩;have x:=F.blk (n.o) (c.o.ps.tag n.o (by decide) (by decide)).1 (c.o.ps.tag n.o (by decide) (by decide)).2;have vL:=x.cell 0;have vM:=x.cell 1;have vN:=x.cell 2;clear x;have y:=O ((c.o).add R F (by intro b W;simp [Value.ownBlock] at W));clear R F))
 all_goals
  obtain rfl:=dS A.o;go_wp2_with fail;go_ret;exact bG.ok rfl y.o
end
section
variable {g:Nat} {tv:Value} {l:List Tok} {en:Int} {iv:Value} (hF:PF l)
include hF
theorem OH (m:Nat)(w:World)(k:Nat)(xs:List NV)(nv:Value)(r:j5)(h:PS g tv l en iv w (k+1) xs nv)(hk:k+1≤l.length)(hn:xs.length≤k)(hw:Wf (aH xs))(hr:jg l en m .record k (aH xs)=some r) :
  Calls Tryz.prog 134 #[.pointer (some ⟨g,0,none⟩),.agg #[.int .u8 (tg l k).kind,.string (aG (tx l k)),.int .i64 (pl l en k)]] w (bG g tv l en iv w xs nv r):=by
 have C:=fun (f:Nat) (_:f≤m) (j:Job) (hj:isFn j=true)=>oD (g:=g) (tv:=tv) (en:=en) (iv:=iv) hF f j hj
 have CL:=fun (f:Nat) (_:f≤m) (e:El)=>oC (g:=g) (tv:=tv) (en:=en) (iv:=iv) hF f e
 have H:=O h;clear h;have y:=O ((At.refl H.o).alloc (.cells #[.int .u8 (tg l k).kind,.string (aG (tx l k)),.int .i64 (pl l en k)] 112));have xg:=O (bY.new w 112 #[.int .u8 (tg l k).kind,.string (aG (tx l k)),.int .i64 (pl l en k)]);have v:=O hw;clear hw;have hn0:(aH xs).length≤k:=by rw [dK];exact hn
 have hlen:=hF.len;unfold jg at hr
 have qX:=O hr;clear hr;go_in
 rcases gy qX.o with ⟨d,N⟩ | ⟨d,rfl⟩
 rotate_left
 ·have uh:=O d;clear d;go_wp2_with fail;refine (mo g tv l en iv hF _ (k+1) _ _ y.o.ps (by omega) uh.o).mono ?_;rintro e w1⟨rfl,hb1⟩;unfold aY;go_wp2_with fail;exact⟨rfl,bG.bad rfl ((H.o.low y.o.mv).trans (hb1.mono (amM y.o.ps.lt)))⟩
 have E:=O N;clear N qX;have hlt1:=mH d (by simp);have uh:=O d;clear d;go_wp2_with fail;refine (kE g tv l en iv hF _ (k+1) _ _ y.o.ps (by omega) uh.o).mono ?_;rintro e w1⟨rfl,p1,m1⟩;have rE:=O (y.o.ps.bH m1 xg.o);clear xg;have D:=O (y.o.step p1 m1);clear y;clear p1 m1;unfold jc;have jQ:=O (rE.o.alloc (.cells #[.int .u8 (tg l (k+1)).kind,.string (aG (tx l (k+1))),.int .i64 (pl l en (k+1))] 112));clear rE;have nT:=O (bY.new w1 112 #[.int .u8 (tg l (k+1)).kind,.string (aG (tx l (k+1))),.int .i64 (pl l en (k+1))]);have t:=O (D.o.alloc (.cells #[.int .u8 (tg l (k+1)).kind,.string (aG (tx l (k+1))),.int .i64 (pl l en (k+1))] 112));clear D;rcases dN E.o with ⟨i,P⟩ | ⟨i,rfl⟩
 rotate_left
 ·have u:=O i;clear i;go_wp2_with fail;refine (iy g tv l en iv hF [61] (.inr (by decide +kernel)) _ ((k+1)+1) _ _ t.o.ps (by omega) u.o).mono ?_;rintro e w2⟨rfl,hb2⟩;unfold aY;go_wp2_with fail;exact⟨rfl,bG.bad rfl ((H.o.low t.o.mv).trans (hb2.mono (amM t.o.ps.lt)))⟩
 have F:=O P;clear P E;have hlt2:=dR i (by simp);have u:=O i;clear i;go_wp2_with fail;refine (fO g tv l en iv hF [61] (.inr (by decide +kernel)) _ ((k+1)+1) _ _ t.o.ps (by omega) u.o).mono ?_;rintro e w2⟨rfl,p2,V⟩;have dY:=O (t.o.ps.bH V jQ.o);have kZ:=O (t.o.ps.bH V nT.o);clear jQ nT;have a:=O (t.o.step p2 V);clear t;clear p2 V;rcases dN F.o with ⟨A,Q⟩ | ⟨A,rfl⟩
 rotate_left
 ·have Z:=O A;clear A;go_wp2_with fail;refine (iy g tv l en iv hF [123] (.inr (by decide +kernel)) _ (((k+1)+1)+1) _ _ a.o.ps (by omega) Z.o).mono ?_;rintro e w3⟨rfl,hb3⟩;unfold aY;go_wp2_with fail;exact⟨rfl,bG.bad rfl ((H.o.low a.o.mv).trans (hb3.mono (amM a.o.ps.lt)))⟩
 have G:=O Q;clear Q F;have hlt3:=dR A (by simp);have Z:=O A;clear A;go_wp2_with fail;refine (fO g tv l en iv hF [123] (.inr (by decide +kernel)) _ (((k+1)+1)+1) _ _ a.o.ps (by omega) Z.o).mono ?_;rintro e w3⟨rfl,p3,W⟩;have jB:=O (a.o.ps.bH W dY.o);have MV:=O (a.o.ps.bH W kZ.o);clear dY kZ;have c:=O (a.o.step p3 W);clear a;clear p3 W;rcases dW G.o with ⟨ks4,k4,ns4,n,R⟩ | ⟨kb4,n,rfl⟩
 rotate_left
 ·have U:=O n;clear n;go_wp2_with fail;refine (CL m (amL _) .param _ ((((k+1)+1)+1)+1) _ _ _ c.o.ps (by omega) (by rw [c.o.len];omega) (by rw [c.o.ns];exact v.o) (by rw [c.o.ns];exact U.o)).mono ?_;rintro e w4⟨rfl,hb4⟩;unfold aY;go_wp2_with fail;exact⟨rfl,bG.bad rfl ((H.o.low c.o.mv).trans hb4)⟩
 have U:=O n;clear n;have I:=O R;clear R G;go_wp2_with fail;refine (CL m (amL _) .param _ ((((k+1)+1)+1)+1) _ _ _ c.o.ps (by omega) (by rw [c.o.len];omega) (by rw [c.o.ns];exact v.o) (by rw [c.o.ns];exact U.o)).mono ?_;rintro e w4⟨v4,Dg,Ed,rfl,x,T,hd4⟩;have J:=O (jr (base':=w.heap.size) x (fun b hb=>Nat.le_trans c.o.mv.size (x.lt b hb).1));clear x hd4;have K:=O (eG U.o (by omega) v.o (Ids.nil _) (by simp));have Zb:=K.o.lo;have gf4:=K.o.few;have ge4:=K.o.le;have gn4:=K.o.len;simp only [Job.reads] at Zb
 have gZ:=O (T.blk c.o.ps jB.o (by decide) (by decide));have DW:=O (T.blk c.o.ps MV.o (by decide) (by decide));clear jB MV;have adA:=O K.o.wf;have q:=O (c.o.trans T);clear c;clear T;rcases dN I.o with ⟨B,Oz⟩ | ⟨B,rfl⟩
 rotate_left
 ·have Y:=O B;clear B;go_wp2_with fail;refine (iy g tv l en iv hF [125] (.inr (by decide +kernel)) _ k4 _ _ q.o.ps (by omega) Y.o).mono ?_;rintro e w5⟨rfl,hb5⟩;unfold aY;go_wp2_with fail;exact⟨rfl,bG.bad rfl ((H.o.low q.o.mv).trans (hb5.mono (amM q.o.ps.lt)))⟩
 have xw:=O Oz;clear Oz I;have agA:=dR B (by simp);have Y:=O B;clear B;go_wp2_with fail;refine (fO g tv l en iv hF [125] (.inr (by decide +kernel)) _ k4 _ _ q.o.ps (by omega) Y.o).mono ?_;rintro e w5⟨rfl,p5,S⟩;have X:=O (q.o.ps.bH S gZ.o);have L:=O (q.o.ps.bH S DW.o);clear gZ DW;have M:=O (q.o.ps.mM S J.o (by decide) (by decide));clear J;have kR:=O (q.o.step p5 S);clear q;clear p5 S;obtain rfl:=dS xw.o;have fP:=X.o.cell 0;have fZ:=X.o.cell 1;have f_:=X.o.cell 2;have sl0:=X.o.lt;have tL:=L.o.cell 1;have sl1:=L.o.lt;go_wp2_with fail;refine (h_ g tv l en iv ns4.length 41 _ _ _ (tx l (k+1)) 0 _ ks4 _ (k4+1) _ _ kR.o.ps (jr M.o (fun _ _=>amN _)) kR.o.len (by omega)).mono ?_;rintro e w6⟨rfl,Tn,p6,m6⟩;have sH:=O (kR.o.add p6 m6 (fun b hb=>(M.o.lt b hb).1));clear p6 m6;go_wp2_with fail;go_ret;exact bG.ok rfl sH.o
end
section
variable {g:Nat} {tv:Value} {l:List Tok} {en:Int} {iv:Value} (hF:PF l)
theorem Vq {l:List Tok}(hF:PF l){k:Nat}(h:(tg l k).kind=2):numOf (tx l k) < 10000:=by
 have h1:=hF.kind _ (Md l k (mH h (by simp)));have h2:kind (tx l k)=2:=by unfold tx;rw [h1,h]
 obtain⟨h3,_,h4⟩:=vS _ h2;exact ab0 _ h4 h3
theorem Og {l:List Tok}{en:Int}{k c:Nat}{ns b:List Nd}{a:List Int}(d:k≤l.length)(f:Wf ns)(e:Gh l en k ns=some (.ok a c b)):Goes l k (k+1) ns a c b:=((F4 d f).2 _ e).1 a c b rfl
include hF
theorem ER (w:World)(k:Nat)(xs:List NV)(nv:Value)(r:j5)(h:PS g tv l en iv w k xs nv)(hk:k≤l.length)(hn:xs.length≤k)(W:Wf (aH xs))(N:Gh l en k (aH xs)=some r) :
  Calls Tryz.prog 167 #[.pointer (some ⟨g,0,none⟩)] w (bG g tv l en iv w xs nv r):=by
 have H:=O h;clear h;have uT:=O (At.refl H.o);have HW0:=O W;clear W;have hn0:(aH xs).length≤k:=by rw [dK];exact hn
 have y:=hF.len;unfold Gh at N
 go_in
 have qX:=O N;clear N;go_wp2_with fail;refine (iU g tv l en iv _ k _ _ uT.o.ps (by omega) y).mono ?_;rintro e w1⟨rfl,x⟩;have v:=O (uT.o.below x);skip;clear x;have C:=O (bY.new w1 112 #[.int .u8 (tg l k).kind,.string (aG (tx l k)),.int .i64 (pl l en k)]);have j:=O (v.o.alloc (.cells #[.int .u8 (tg l k).kind,.string (aG (tx l k)),.int .i64 (pl l en k)] 112));clear v;rcases gG qX.o with ⟨a,d⟩ | ⟨a,d⟩
 ·skip;have V:=dR a (by simp);have i:=O a;clear a;have c:=O d;clear d;go_wp2_with fail;refine (jT g tv l en iv hF [45] (.inr (by decide +kernel)) _ k _ _ j.o.ps (by omega) i.o).mono ?_;rintro e w3⟨rfl,p3,P⟩;have Y:=O (j.o.ps.bH P C.o);clear C;have m:=O (j.o.step p3 P);clear j;clear p3 P;rcases gy c.o with ⟨u,A⟩ | ⟨u,rfl⟩
  rotate_left
  ·have f:=O u;clear u;go_wp2_with fail;refine (wN g tv l en iv hF _ (k+1) _ _ m.o.ps (by omega) f.o).mono ?_;rintro e w4⟨rfl,L⟩;unfold aY;go_wp2_with fail;exact⟨rfl,bG.bad rfl ((H.o.low m.o.mv).trans (L.mono (amM m.o.ps.lt)))⟩
  have G:=O A;clear A c;have aj4:=mH u (by simp);have f:=O u;clear u;go_wp2_with fail;refine (qI g tv l en iv hF _ (k+1) _ _ m.o.ps (by omega) f.o).mono ?_;rintro e w4⟨rfl,p4,Q⟩;have U:=O (m.o.ps.bH Q Y.o);clear Y;have X:=O (m.o.step p4 Q);clear m;clear p4 Q;unfold jc;have E:=O (U.o.alloc (.cells #[.int .u8 (tg l (k+1)).kind,.string (aG (tx l (k+1))),.int .i64 (pl l en (k+1))] 112));clear U;have Ra:=O (bY.new w4 112 #[.int .u8 (tg l (k+1)).kind,.string (aG (tx l (k+1))),.int .i64 (pl l en (k+1))]);have J:=O (X.o.alloc (.cells #[.int .u8 (tg l (k+1)).kind,.string (aG (tx l (k+1))),.int .i64 (pl l en (k+1))] 112));clear X;have M:=Vq hF (k:=(k+1)) f.o;obtain rfl:=dS G.o;have fP:=E.o.cell 0;have fZ:=E.o.cell 1;have f_:=E.o.cell 2;have T:=E.o.lt;go_wp2_with fail;refine (h_ g tv l en iv (aH xs).length 1 _ _ _ [] (-((numOf (tx l (k+1)):Nat):Int)) _ [] _ ((k+1)+1) _ _ J.o.ps (dw.none_ _) J.o.len (by omega)).mono ?_;rintro e w5⟨rfl,Qx,p5,m5⟩;have S:=O (J.o.add p5 m5 (by intro b K;simp [Value.ownBlock] at K));clear p5 m5;go_wp2_with fail;go_ret;exact bG.ok rfl S.o
 ·skip;have i:=O a;clear a;have c:=O d;clear d;go_wp2_with fail;refine (lG g tv l en iv hF [45] (.inr (by decide +kernel)) _ k _ _ j.o.ps (by omega) i.o).mono ?_;rintro e w6⟨rfl,n⟩;have pO:=O (C.o.below n C.o.lt);clear C;have q:=O (j.o.below n);clear j;clear n;rcases gy c.o with ⟨t,B⟩ | ⟨t,rfl⟩
  rotate_left
  ·have D:=O t;clear t;go_wp2_with fail;refine (wN g tv l en iv hF _ k _ _ q.o.ps (by omega) D.o).mono ?_;rintro e w7⟨rfl,uq⟩;unfold aY;go_wp2_with fail;exact⟨rfl,bG.bad rfl ((H.o.low q.o.mv).trans (uq.mono (amM q.o.ps.lt)))⟩
  have Y6:=O B;clear B c;have aib:=mH t (by simp);have D:=O t;clear t;go_wp2_with fail;refine (qI g tv l en iv hF _ k _ _ q.o.ps (by omega) D.o).mono ?_;rintro e w7⟨rfl,p7,R⟩;have Z:=O (q.o.ps.bH R pO.o);clear pO;have sG:=O (q.o.step p7 R);clear q;clear p7 R;unfold jc;have F:=O (Z.o.alloc (.cells #[.int .u8 (tg l k).kind,.string (aG (tx l k)),.int .i64 (pl l en k)] 112));clear Z;have HN7:=O (bY.new w7 112 #[.int .u8 (tg l k).kind,.string (aG (tx l k)),.int .i64 (pl l en k)]);have I:=O (sG.o.alloc (.cells #[.int .u8 (tg l k).kind,.string (aG (tx l k)),.int .i64 (pl l en k)] 112));clear sG;have M:=Vq hF (k:=k) D.o;obtain rfl:=dS Y6.o;have fP:=F.o.cell 0;have fZ:=F.o.cell 1;have f_:=F.o.cell 2;have T:=F.o.lt;go_wp2_with fail;refine (h_ g tv l en iv (aH xs).length 1 _ _ _ [] ((numOf (tx l k):Nat):Int) _ [] _ (k+1) _ _ I.o.ps (dw.none_ _) I.o.len (by omega)).mono ?_;rintro e w8⟨rfl,nv8,p8,m8⟩;have S:=O (I.o.add p8 m8 (by intro b K;simp [Value.ownBlock] at K));clear p8 m8;go_wp2_with fail;go_ret;exact bG.ok rfl S.o
end
