/-
  A part of the proof.
-/
import Derived.Test.YtalghggmkojblaaGreatDoorS10
set_option linter.all false
set_option maxRecDepth 100000
set_option maxHeartbeats 4000000
namespace Go.Proofs.YtalghggmkojblaaGreatDoor
open Go.RowKit Mist
attribute [local go_sem] ak aN aV aF aj
section
variable {g:Nat} {tv:Value} {l:List Tok} {en:Int} {iv:Value} (hF:PF l)
include hF
theorem acw (m:Nat)(C:∀ f,f≤m→∀ j,isFn j=true→IC g tv l en iv f j)(CL:∀ f,f≤m→∀ e,LC g tv l en iv f e):IC g tv l en iv (m+1) .put:=by
 intro w k xs nv r h hk hn hw U;have H:=O h;clear h;have J:=O (At.refl H.o);have u:=O hw;clear hw;have hn0:(aH xs).length≤k:=by rw [dK];exact hn
 have hlen:=hF.len;rw [run] at U
 unfold rO;go_enter Tryz.func208,Tryz.ntmps208
 have qX:=O U;clear U;rcases gy qX.o with ⟨d,F⟩ | ⟨d,rfl⟩
 rotate_left
 ·have Z:=O d;clear d;go_wp2_with fail;refine (mo g tv l en iv hF _ k _ _ J.o.ps (by omega) Z.o).mono ?_;rintro e w1⟨rfl,Q⟩;unfold aY;go_wp2_with fail;exact⟨rfl,bG.bad rfl ((H.o.low J.o.mv).trans (Q.mono (amM J.o.ps.lt)))⟩
 have D:=O F;clear F qX;have hlt1:=mH d (by simp);have Z:=O d;clear d;go_wp2_with fail;refine (kE g tv l en iv hF _ k _ _ J.o.ps (by omega) Z.o).mono ?_;rintro e w1⟨rfl,p1,m1⟩;have B:=O (J.o.step p1 m1);skip;clear p1 m1;unfold jc;have nT:=O (bY.new w1 112 #[.int .u8 (tg l k).kind,.string (aG (tx l k)),.int .i64 (pl l en k)]);have v:=O (B.o.alloc (.cells #[.int .u8 (tg l k).kind,.string (aG (tx l k)),.int .i64 (pl l en k)] 112));clear B;rcases dN D.o with ⟨i,G⟩ | ⟨i,rfl⟩
 rotate_left
 ·have t:=O i;clear i;go_wp2_with fail;refine (iy g tv l en iv hF [58] (.inr (by decide +kernel)) _ (k+1) _ _ v.o.ps (by omega) t.o).mono ?_;rintro e w2⟨rfl,R⟩;unfold aY;go_wp2_with fail;exact⟨rfl,bG.bad rfl ((H.o.low v.o.mv).trans (R.mono (amM v.o.ps.lt)))⟩
 have E:=O G;clear G D;have hlt2:=dR i (by simp);have t:=O i;clear i;go_wp2_with fail;refine (fO g tv l en iv hF [58] (.inr (by decide +kernel)) _ (k+1) _ _ v.o.ps (by omega) t.o).mono ?_;rintro e w2⟨rfl,p2,V⟩;have q:=O (v.o.ps.bH V nT.o);clear nT;have a:=O (v.o.step p2 V);clear v;clear p2 V;rcases dW E.o with ⟨Vj,k3,Ze,n,I⟩ | ⟨kb3,n,rfl⟩
 rotate_left
 ·have L:=O n;clear n;have fP:=q.o.cell 0;have fZ:=q.o.cell 1;have f_:=q.o.cell 2;have Y:=q.o.lt;go_wp2_with fail;refine wp_region_held_drew (S:=fun x=>x.cell? ⟨w1.heap.size,0,none⟩=some (.int .u8 (tg l k).kind)∧x.cell? ⟨w1.heap.size,1,none⟩=some (.string (aG (tx l k)))∧x.cell? ⟨w1.heap.size,2,none⟩=some (.int .i64 (pl l en k))) (by kernel_rfl) ⟨fP,fZ,f_⟩ (fun c=>?_);refine cB 0 rfl c ?_;simp only [Act.put,amC,amD,amE];refine cB 1 rfl c ?_;simp only [Act.put,amC,amD,amE];refine cB 2 rfl c ?_;simp only [Act.put,amC,amD,amE];refine cB 3 rfl c ?_;simp only [Act.put,amC,amD,amE];refine cB 4 rfl c ?_;simp only [Act.put,amC,amD,amE];refine wpAnyH_ready (rs:=[5]) (by kernel_rfl) (by simp) ?_;refine gM (.s (.s (.s (.s (.s .z))))) (fun K hK=>?_);go_simp;refine (C m (amL _) .expr rfl _ ((k+1)+1) _ _ _ a.o.ps.drew (by omega) (by rw [a.o.len];omega) (by rw [a.o.ns];exact u.o) (by rw [a.o.ns];exact L.o)).mono ?_;rintro e w3⟨rfl,T⟩;unfold aY;go_wp2_with fail;exact⟨rfl,bG.bad rfl ((Below.drew (H.o.low a.o.mv)).trans T)⟩
 have L:=O n;clear n;have P:=O I;clear I E;have M:=O (eG L.o (by omega) u.o (Ids.nil _) (by simp));have Za:=M.o.lo;have gf3:=M.o.few;have ge3:=M.o.le;have gn3:=M.o.len;simp only [Job.reads] at Za
 have fP:=q.o.cell 0;have fZ:=q.o.cell 1;have f_:=q.o.cell 2;have Y:=q.o.lt;go_wp2_with fail
 go_region_held3 (fun x=>x.cell? ⟨w1.heap.size,0,none⟩=some (.int .u8 (tg l k).kind)∧x.cell? ⟨w1.heap.size,1,none⟩=some (.string (aG (tx l k)))∧x.cell? ⟨w1.heap.size,2,none⟩=some (.int .i64 (pl l en k)))
  (first | go_keep|(go_split_ands;refine⟨?_,?_,?_⟩ <;> assumption))
  (first
   | (go_at_call 174;refine (C m (amL _) .expr rfl _ ((k+1)+1) _ _ _ a.o.ps.drew (by omega) (by rw [a.o.len];omega) (by rw [a.o.ns];exact u.o) (by rw [a.o.ns];exact L.o)).mono ?_;rintro e w3⟨rfl,adV,Ll,yU⟩;have y:=O (a.o.drew.trans yU);have A:=yU.blk a.o.ps.drew q.o.drew (by decide) (by decide);have vI:=A.cell 0;have vJ:=A.cell 1;have vK:=A.cell 2;have dl0:=A.lt;have X:=O A;clear A;have hz3:=y.o.mv.size;clear yU)
   | (go_at_call 168;refine (h_ g tv l en iv Ze.length 25 _ _ _ (tx l k) 0 _ [hd Vj] _ k3 _ _ (y.o.ps.alloc _) (rQ w3 (hd Vj)) y.o.len (by omega)).mono ?_;rintro e w4⟨rfl,Ed,p4,W⟩;have N:=W.blk (X.o.alloc _) (y.o.ps.tag X.o (by decide) (by decide)).1 (y.o.ps.tag X.o (by decide) (by decide)).2;have vL:=N.cell 0;have vM:=N.cell 1;have vN:=N.cell 2;clear N;have iw:=O ((At.alloc y.o _).add p4 W (by intro b hb;simp [Value.ownBlock] at hb;omega));clear p4 W))
 all_goals
  obtain rfl:=dS P.o;go_wp2_with fail;go_ret;exact bG.ok rfl iw.o
end
section
variable {g:Nat} {tv:Value} {l:List Tok} {en:Int} {iv:Value} (hF:PF l)
include hF
theorem Tv (m:Nat)(C:∀ f,f≤m→∀ j,isFn j=true→IC g tv l en iv f j)(CL:∀ f,f≤m→∀ e,LC g tv l en iv f e):IC g tv l en iv (m+1) .param:=by
 intro w k xs nv r h hk hn hw U;have H:=O h;clear h;have J:=O (At.refl H.o);have u:=O hw;clear hw;have hn0:(aH xs).length≤k:=by rw [dK];exact hn
 have hlen:=hF.len;rw [run] at U
 unfold rO;go_enter Tryz.func170,Tryz.ntmps170
 have qX:=O U;clear U;rcases gy qX.o with ⟨d,F⟩ | ⟨d,rfl⟩
 rotate_left
 ·have Z:=O d;clear d;go_wp2_with fail;refine (mo g tv l en iv hF _ k _ _ J.o.ps (by omega) Z.o).mono ?_;rintro e w1⟨rfl,Q⟩;unfold aY;go_wp2_with fail;exact⟨rfl,bG.bad rfl ((H.o.low J.o.mv).trans (Q.mono (amM J.o.ps.lt)))⟩
 have D:=O F;clear F qX;have hlt1:=mH d (by simp);have Z:=O d;clear d;go_wp2_with fail;refine (kE g tv l en iv hF _ k _ _ J.o.ps (by omega) Z.o).mono ?_;rintro e w1⟨rfl,p1,m1⟩;have B:=O (J.o.step p1 m1);skip;clear p1 m1;unfold jc;have nT:=O (bY.new w1 112 #[.int .u8 (tg l k).kind,.string (aG (tx l k)),.int .i64 (pl l en k)]);have v:=O (B.o.alloc (.cells #[.int .u8 (tg l k).kind,.string (aG (tx l k)),.int .i64 (pl l en k)] 112));clear B;rcases dN D.o with ⟨i,G⟩ | ⟨i,rfl⟩
 rotate_left
 ·have t:=O i;clear i;go_wp2_with fail;refine (iy g tv l en iv hF [58] (.inr (by decide +kernel)) _ (k+1) _ _ v.o.ps (by omega) t.o).mono ?_;rintro e w2⟨rfl,R⟩;unfold aY;go_wp2_with fail;exact⟨rfl,bG.bad rfl ((H.o.low v.o.mv).trans (R.mono (amM v.o.ps.lt)))⟩
 have E:=O G;clear G D;have hlt2:=dR i (by simp);have t:=O i;clear i;go_wp2_with fail;refine (fO g tv l en iv hF [58] (.inr (by decide +kernel)) _ (k+1) _ _ v.o.ps (by omega) t.o).mono ?_;rintro e w2⟨rfl,p2,V⟩;have q:=O (v.o.ps.bH V nT.o);clear nT;have a:=O (v.o.step p2 V);clear v;clear p2 V;rcases dW E.o with ⟨Vj,k3,Ze,n,I⟩ | ⟨kb3,n,rfl⟩
 rotate_left
 ·have L:=O n;clear n;have fP:=q.o.cell 0;have fZ:=q.o.cell 1;have f_:=q.o.cell 2;have Y:=q.o.lt;go_wp2_with fail;refine wp_region_held_drew (S:=fun x=>x.cell? ⟨w1.heap.size,0,none⟩=some (.int .u8 (tg l k).kind)∧x.cell? ⟨w1.heap.size,1,none⟩=some (.string (aG (tx l k)))∧x.cell? ⟨w1.heap.size,2,none⟩=some (.int .i64 (pl l en k))) (by kernel_rfl) ⟨fP,fZ,f_⟩ (fun c=>?_);refine cB 0 rfl c ?_;simp only [Act.put,amC,amD,amE];refine cB 1 rfl c ?_;simp only [Act.put,amC,amD,amE];refine cB 2 rfl c ?_;simp only [Act.put,amC,amD,amE];refine cB 3 rfl c ?_;simp only [Act.put,amC,amD,amE];refine cB 4 rfl c ?_;simp only [Act.put,amC,amD,amE];refine wpAnyH_ready (rs:=[5]) (by kernel_rfl) (by simp) ?_;refine gM (.s (.s (.s (.s (.s .z))))) (fun K hK=>?_);go_simp;refine (C m (amL _) .typ rfl _ ((k+1)+1) _ _ _ a.o.ps.drew (by omega) (by rw [a.o.len];omega) (by rw [a.o.ns];exact u.o) (by rw [a.o.ns];exact L.o)).mono ?_;rintro e w3⟨rfl,T⟩;unfold aY;go_wp2_with fail;exact⟨rfl,bG.bad rfl ((Below.drew (H.o.low a.o.mv)).trans T)⟩
 have L:=O n;clear n;have P:=O I;clear I E;have M:=O (eG L.o (by omega) u.o (Ids.nil _) (by simp));have Za:=M.o.lo;have gf3:=M.o.few;have ge3:=M.o.le;have gn3:=M.o.len;simp only [Job.reads] at Za
 have fP:=q.o.cell 0;have fZ:=q.o.cell 1;have f_:=q.o.cell 2;have Y:=q.o.lt;go_wp2_with fail
 go_region_held3 (fun x=>x.cell? ⟨w1.heap.size,0,none⟩=some (.int .u8 (tg l k).kind)∧x.cell? ⟨w1.heap.size,1,none⟩=some (.string (aG (tx l k)))∧x.cell? ⟨w1.heap.size,2,none⟩=some (.int .i64 (pl l en k)))
  (first | go_keep|(go_split_ands;refine⟨?_,?_,?_⟩ <;> assumption))
  (first
   | (go_at_call 171;refine (C m (amL _) .typ rfl _ ((k+1)+1) _ _ _ a.o.ps.drew (by omega) (by rw [a.o.len];omega) (by rw [a.o.ns];exact u.o) (by rw [a.o.ns];exact L.o)).mono ?_;rintro e w3⟨rfl,adV,Ll,yU⟩;have y:=O (a.o.drew.trans yU);have A:=yU.blk a.o.ps.drew q.o.drew (by decide) (by decide);have vI:=A.cell 0;have vJ:=A.cell 1;have vK:=A.cell 2;have dl0:=A.lt;have X:=O A;clear A;have hz3:=y.o.mv.size;clear yU)
   | (go_at_call 168;refine (h_ g tv l en iv Ze.length 34 _ _ _ (tx l k) 0 _ [hd Vj] _ k3 _ _ (y.o.ps.alloc _) (rQ w3 (hd Vj)) y.o.len (by omega)).mono ?_;rintro e w4⟨rfl,Ed,p4,W⟩;have N:=W.blk (X.o.alloc _) (y.o.ps.tag X.o (by decide) (by decide)).1 (y.o.ps.tag X.o (by decide) (by decide)).2;have vL:=N.cell 0;have vM:=N.cell 1;have vN:=N.cell 2;clear N;have iw:=O ((At.alloc y.o _).add p4 W (by intro b hb;simp [Value.ownBlock] at hb;omega));clear p4 W))
 all_goals
  obtain rfl:=dS P.o;go_wp2_with fail;go_ret;exact bG.ok rfl iw.o
end
section
variable {g:Nat} {tv:Value} {l:List Tok} {en:Int} {iv:Value} (hF:PF l)
include hF
theorem Vy (j J:Job)(x:Bs)(hJ:j=.lv .not∧J=.lv .cmp∧x=[110,111,116]∨j=.lv .unary∧J=.post∧x=[45])(hx:Mist.kind x=3∨Mist.kind x=4)(m:Nat)(C:IC g tv l en iv m j)(D:IC g tv l en iv m J):IC g tv l en iv (m+1) j:=by
 intro w k xs nv r h hk hn hw hr;have H:=O h;clear h;have uT:=O (At.refl H.o);have q:=O hw;clear hw;have hn0:(aH xs).length≤k:=by rw [dK];exact hn
 have N:=hF.len;rcases hJ with ⟨rfl,rfl,rfl⟩ | ⟨rfl,rfl,rfl⟩
 all_goals
  rw [run] at hr
  simp only [rO,xG];have HC:=O C;clear C;have HD:=O D;clear D;go_in
  have qX:=O hr;clear hr;go_wp2_with fail;refine (iU g tv l en iv _ k _ _ uT.o.ps (by omega) N).mono ?_;rintro e w1⟨rfl,M⟩;have I:=O (uT.o.below M);skip;clear M;have R:=O (bY.new w1 112 #[.int .u8 (tg l k).kind,.string (aG (tx l k)),.int .i64 (pl l en k)]);have y:=O (I.o.alloc (.cells #[.int .u8 (tg l k).kind,.string (aG (tx l k)),.int .i64 (pl l en k)] 112));clear I;rcases gG qX.o with ⟨c,f⟩ | ⟨c,f⟩
  ·skip;have hlt2:=dR c (by simp);have u:=O c;clear c;have n:=O f;clear f;go_wp2_with fail;refine (jT g tv l en iv hF _ hx _ k _ _ y.o.ps (by omega) u.o).mono ?_;rintro e w3⟨rfl,p3,m3⟩;have t:=O (y.o.ps.bH m3 R.o);clear R;have d:=O (y.o.step p3 m3);clear y;clear p3 m3;rcases dW n.o with ⟨Q,k4,ns4,i,P⟩ | ⟨kb4,i,rfl⟩
   rotate_left
   ·have U:=O i;clear i;have fP:=t.o.cell 0;have fZ:=t.o.cell 1;have f_:=t.o.cell 2;have sl0:=t.o.lt;go_wp2_with fail;refine wp_region_held_drew (S:=fun B=>B.cell? ⟨w1.heap.size,0,none⟩=some (.int .u8 (tg l k).kind)∧B.cell? ⟨w1.heap.size,1,none⟩=some (.string (aG (tx l k)))∧B.cell? ⟨w1.heap.size,2,none⟩=some (.int .i64 (pl l en k))) (by kernel_rfl) ⟨fP,fZ,f_⟩ (fun a=>?_);refine cB 0 rfl a ?_;simp only [Act.put,amC,amD,amE];refine cB 1 rfl a ?_;simp only [Act.put,amC,amD,amE];refine cB 2 rfl a ?_;simp only [Act.put,amC,amD,amE];refine wpAnyH_ready (rs:=[3]) (by kernel_rfl) (by simp) ?_;refine gM (.s (.s (.s .z))) (fun K hK=>?_);go_simp;refine (HC.o _ (k+1) _ _ _ d.o.ps.drew (by omega) (by rw [d.o.len];omega) (by rw [d.o.ns];exact q.o) (by rw [d.o.ns];exact U.o)).mono ?_;rintro e w4⟨rfl,Z⟩;unfold aY;go_wp2_with fail;exact⟨rfl,bG.bad rfl ((Below.drew (H.o.low d.o.mv)).trans Z)⟩
   have U:=O i;clear i;have X:=O P;clear P n;have T:=O (eG U.o (by omega) q.o (Ids.nil _) (by simp));have Zb:=T.o.lo;have gf4:=T.o.few;have ge4:=T.o.le;have gn4:=T.o.len;simp only [Job.reads] at Zb
   have fP:=t.o.cell 0;have fZ:=t.o.cell 1;have f_:=t.o.cell 2;have sl0:=t.o.lt;go_wp2_with fail
   go_region_held3 (fun B=>B.cell? ⟨w1.heap.size,0,none⟩=some (.int .u8 (tg l k).kind)∧B.cell? ⟨w1.heap.size,1,none⟩=some (.string (aG (tx l k)))∧B.cell? ⟨w1.heap.size,2,none⟩=some (.int .i64 (pl l en k)))
    (first | go_keep|(go_split_ands;refine⟨?_,?_,?_⟩ <;> assumption))
    (first
     | (go_at_call 168;refine (h_ g tv l en iv ns4.length _ _ _ _ [] 0 _ [hd Q] _ k4 _ _ (F.o.ps.alloc _) (rQ w4 (hd Q)) F.o.len (by omega)).mono ?_;rintro e w5⟨rfl,Qx,p5,m5⟩;have V:=m5.blk (v.o.alloc _) (F.o.ps.tag v.o (by decide) (by decide)).1 (F.o.ps.tag v.o (by decide) (by decide)).2;have vL:=V.cell 0;have vM:=V.cell 1;have vN:=V.cell 2;clear V;have kR:=O ((At.alloc F.o _).add p5 m5 (by intro b hb;simp [Value.ownBlock] at hb;omega));clear p5 m5)
     | (refine (HC.o _ (k+1) _ _ _ d.o.ps.drew (by omega) (by rw [d.o.len];omega) (by rw [d.o.ns];exact q.o) (by rw [d.o.ns];exact U.o)).mono ?_;rintro e w4⟨rfl,Dg,Ed,Y⟩;have F:=O (d.o.drew.trans Y);have E:=Y.blk d.o.ps.drew t.o.drew (by decide) (by decide);have vI:=E.cell 0;have vJ:=E.cell 1;have vK:=E.cell 2;have dl0:=E.lt;have v:=O E;clear E;have hz4:=F.o.mv.size;clear Y))
   all_goals
    obtain rfl:=dS X.o;go_wp2_with fail;go_ret;exact bG.ok rfl kR.o
  ·skip;have u:=O c;clear c;have n:=O f;clear f;go_wp2_with fail;refine (lG g tv l en iv hF _ hx _ k _ _ y.o.ps (by omega) u.o).mono ?_;rintro e w6⟨rfl,A⟩;have pO:=O (R.o.below A R.o.lt);clear R;have G:=O (y.o.below A);clear y;clear A;have HX:=O n.o;go_wp2_with fail;have HQ:=O (HD.o _ k _ _ r G.o.ps (by omega) (by rw [G.o.len];omega) (by rw [G.o.ns];exact q.o) (by rw [G.o.ns];exact HX.o))
   cases r with
   | bad kb =>
    refine HQ.o.mono ?_;rintro e wq⟨rfl,hbq⟩;unfold aY;go_wp2_with fail;exact⟨rfl,bG.bad rfl ((H.o.low G.o.mv).trans hbq)⟩
   | ok ksq kq nsq =>
    refine HQ.o.mono ?_;rintro e wq⟨rfl,ahW,nvq,L⟩;have W:=O (G.o.trans L);clear L;go_wp2_with fail;go_ret;exact bG.ok rfl W.o
end
