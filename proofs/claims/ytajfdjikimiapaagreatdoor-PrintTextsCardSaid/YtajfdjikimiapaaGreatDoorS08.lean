/-
  A part of the proof.
-/
import Derived.Test.YtajfdjikimiapaaGreatDoorS07
set_option linter.all false
set_option maxRecDepth 100000
set_option maxHeartbeats 4000000
namespace Go.Proofs.YtajfdjikimiapaaGreatDoor
open Go.RowKit Mist
attribute [local go_sem] au aN aV aM aG
section
variable {g:Nat} {tv:Value} {l:List Tok} {en:Int} {iv:Value} (hF:PF l)
include hF
theorem Hy (c:El)(m:Nat)(C:∀ f,f≤m→IC g tv l en iv f c.job):LC g tv l en iv (m+1) c:=by
 have hem:∀ args W,Sem.run Tryz.prog (callFunc (aal c) args) W=.ok (.enter (aal c) args) W:=by intro args W;cases c <;> kernel_rfl
 have hr1:c.job.reads=1:=by cases c <;> rfl
 have hjf:pY c.job=aal c:=by cases c <;> rfl
 unfold IC at C
 rw [hjf] at C
 clear hjf;intro w k xs nv r h hk hn hw hr;have HC:=O C;clear C;have H:=O h;clear h;have HW:=O hw;clear hw;have HR:=O (show thn (run l en m c.job k (aj xs)) (fun a A I=>run l en m (.lC c [hd a]) A I)=some r by rw [run] at hr;exact hr);clear hr;have hlen:=hF.len;obtain⟨i0,hi0,hz0,hz1,hz2⟩:=info_parts mE;go_enter Tryz.func197,Tryz.ntmps197
 go_wp2_with fail;rcases i:run l en m c.job k (aj xs) with _ | x
 ·have:=HR.o;rw [i] at this;cases this
 have F:=O i;clear i;have J:=O (show thn (some x) (fun a A I=>run l en m (.lC c [hd a]) A I)=some r by have:=HR.o;rwa [F.o] at this);clear HR
 cases x with
 | bad kb =>
  obtain rfl:kF.bad kb=r:=aiB J.o;refine (HC.o m (aiv _) _ k xs nv _ H.o hk hn HW.o F.o).mono ?_;rintro e w1⟨rfl,hb⟩;unfold aX;go_wp2_with fail;exact⟨rfl,zY.bad rfl hb⟩
 | ok ks A I =>
  have B:=O (dU F.o hk HW.o (by cases c <;> exact Ids.nil _) (by cases c <;> simp [El.job]));refine (HC.o m (aiv _) _ k xs nv _ H.o hk hn HW.o F.o).mono ?_;rintro e w1⟨rfl,ext,nV,ha⟩;have t:=O ha;clear ha;have K:=O (show run l en m (.lC c [hd ks]) A (aj (xs ++ ext))=some r by rw [t.o.ns];exact J.o);clear J F;have hk1:=B.o.le;have hf1:=B.o.few;have hg1:=B.o.lo;simp only [hr1] at hg1
  rw [bW] at hf1
  have hl1:=t.o.len;have Q:=O (show Wf (aj (xs ++ ext)) by rw [t.o.ns];exact B.o.wf);have U:=O (show Ids [hd ks] (xs ++ ext).length by rw [hl1];exact Ids.cons B.o.hd (Ids.nil _));have Z:(xs ++ ext).length≤A:=by omega
  have hsz:=t.o.mv.size;have D:=O (show (w1.alloc (.cells #[.int .i64 (hd ks)] 3)).ownsRow w.heap.size 3 1 (.slice (some ⟨w1.heap.size,0,none⟩) 1 1) 1 (intCells [hd ks]) from World.ownsRow_lit w1 _ 1 hsz (by simp [maxLen]) rfl);have V:=O (show ∀ x ∈ ext,x.2.ownBlock=none∨x.2.ownBlock ≠ (Value.slice (some ⟨w1.heap.size,0,none⟩) 1 1).ownBlock from fun x i=>t.o.ps.aaK i (aiv _));have G:=O (t.o.alloc (.cells #[.int .i64 (hd ks)] 3));have hk0:1≤A:=by omega
  clear hl1 hf1 B t hg1;obtain⟨av,Y⟩:∃ av,av=hd ks:=⟨_,rfl⟩;rw [← Y] at K U D G ⊢
  clear Y;have E_:=O G.o.ns;go_wp2_with fail
  go_loopw [5] (fun v wr=>∃ (f y:Nat) (ext:List NV) (l7:Value) (d:List Int) (q:Nat),f≤m∧y≤l.length∧(xs ++ ext).length≤y∧q≤y∧Hid (d.length=q)∧0 < q∧Hid (run l en f (.lC c d) y (aj (xs ++ ext))=some r)∧Hid (Wf (aj (xs ++ ext)))∧Hid (Ids d (xs ++ ext).length) ∧
    Hid (At g tv l en iv w xs nv y (aj (xs ++ ext)) wr ext l7)∧wr.ownsRow w.heap.size 3 1 v q (intCells d)∧Hid (∀ x ∈ ext,x.2.ownBlock=none∨x.2.ownBlock ≠ v.ownBlock)) (fun _ wr=>uT g l.length wr)
  case atStart=>exact⟨m,A,ext,nV,[av],1,aiv _,hk1,Z,hk0,O rfl,by omega,K,Q,U,by rw [E_.o];exact G,D.o,V⟩
  case round =>
   clear G D V K Q U Z hk1 E_ hk0;obtain⟨f,y,ext,l7,d,q,hfm,hk',hn',hq',HQ,hq0,vC,Q,U,t,E,V⟩:=hrel
   obtain⟨f,rfl⟩:∃ f0,f=f0+1:=⟨f - 1,by
    rcases Nat.eq_zero_or_pos f with h | h
    ·subst h;have:=vC.o;rw [run] at this;cases this
    ·omega⟩
   have HMS:=O (t.o.ps.uT (n:=l.length));obtain⟨A5,c5,rfl⟩:=dh E;have D:=O E;clear E;by_cases R:tx l y=[44]
   case neg =>
    have HST:=O (show r=.ok d y (aj (xs ++ ext)) by have:=vC.o;rw [run,if_neg R] at this;exact (aiB this).symm);go_wp2_with fail;refine (kP g tv l en iv hF [44] (.inr (by decide +kernel)) _ y _ l7 t.o.ps hk' R).mono ?_;rintro e w2⟨rfl,L⟩;have j:=O (t.o.below L);have MF:=O (own_below D.o L);clear L;go_wp2_with fail;go_ret;rw [HST.o];exact zY.ok rfl (by rw [HQ.o];exact MF.o) j.o V.o
   case pos =>
    have hkl:=dM R (by simp);have UR:=O (show thn (run l en f c.job (y+1) (aj (xs ++ ext))) (fun a A I=>run l en f (.lC c (d ++ [hd a])) A I)=some r by have:=vC.o;rw [run,if_pos R] at this;exact this);go_wp2_with fail;refine (jc g tv l en iv hF [44] (.inr (by decide +kernel)) _ y _ l7 t.o.ps hk' R).mono ?_;rintro e w2⟨rfl,p2,m2⟩;have j:=O (t.o.step p2 m2);have MF:=O (t.o.ps.lI m2 D.o (by decide) (by decide));clear p2 m2;clear R vC;go_wp2_with fail;rcases i:run l en f c.job (y+1) (aj (xs ++ ext)) with _ | x
    ·have:=UR.o;rw [i] at this;cases this
    have F:=O i;clear i;have S:=O (show thn (some x) (fun a A I=>run l en f (.lC c (d ++ [hd a])) A I)=some r by have:=UR.o;rw [F.o] at this;exact this);clear UR
    cases x with
    | bad kb =>
     obtain rfl:kF.bad kb=r:=aiB S.o;have QZ:=O (H.o.low j.o.mv);refine (HC.o f (by omega) _ (y+1) (xs ++ ext) l7 _ j.o.ps (by omega) (by omega) Q.o F.o).mono ?_;rintro e w4⟨rfl,hb4⟩;unfold aX;go_wp2_with fail;exact⟨rfl,zY.bad rfl (QZ.o.trans hb4)⟩
    | ok kb A I =>
     have B:=O (dU F.o (by omega) Q.o (by cases c <;> exact Ids.nil _) (by cases c <;> simp [El.job]));refine (HC.o f (by omega) _ (y+1) (xs ++ ext) l7 _ j.o.ps (by omega) (by omega) Q.o F.o).mono ?_;rintro e w4⟨rfl,zi,U4,IX⟩;have gM:=O IX;clear IX;have T:=O (j.o.ps.lI gM.o.mv MF.o (by decide) (by decide));have P:=O (j.o.trans gM.o);have ahS:=P.o.mv.size
     have ME:=O (show ∀ x ∈ ext ++ zi,x.2.ownBlock=none∨x.2.ownBlock ≠ (Value.slice A5 q c5).ownBlock from fun x i=>by
      rcases List.mem_append.1 i with i | i
      ·exact V.o x i
      ·exact JO gM.o.fresh i (fun b hb=>(MF.o.lt b hb).2))
     have g1:=B.o.lo;have g2:=B.o.few;have g3:=B.o.le;have g4:=P.o.len;have g5:=B.o.len;simp only [bW] at g2 g5
     simp only [hr1] at g1
     have hqm:q+1≤100000:=by omega
     have Zq:=O g4;clear g4
     go_wp2_with (at_builtin
                  refine wpList_append_lies _ rfl (.tmp 12) (.tmp 16) 23 rfl w.heap.size 3 i0 _ 1 8 Tryz.underlying23 hi0 hz0 hz1 hz2 rfl (by decide) _ q (intCells d) rfl
                    (T.o.alloc _) ⟨w4.heap.size,0,none⟩ 1 1 [.int .i64 (hd kb)] rfl rfl (h_ _ _ _) (by intro u hu;simp at hu;subst hu;rfl) (by omega) (by simp only [maxLen];omega) (by omega) (by simp;omega) (w4.heap.size+1) (by simp) ?_
                  intro gg cap w5 N M X hgl)
     have lF:=O ((P.o.alloc (.cells #[.int .i64 (hd kb)] 3)).grown H.o T.o (by decide) M ME.o);have HAT:=O X;clear X;have HGR:=O M;clear M
     refine⟨⟨f,A,ext ++ zi,U4,d ++ [hd kb],q+1,by omega,g3,by rw [Zq.o];omega,by omega,O (by rw [aiA,HQ.o];rfl),by omega,O (by rw [P.o.ns];exact S.o),O (by rw [P.o.ns];exact B.o.wf),O (by rw [Zq.o];exact (U.o.mono g5).app (Ids.cons B.o.hd (Ids.nil _))),
      O (by rw [P.o.ns];exact lF.o),by rw [iU];exact N,O (fun x i=>?_)⟩,?_⟩
     ·show x.2.ownBlock=none∨x.2.ownBlock ≠ some gg
      rcases HAT.o with e | e
      ·rw [← e];exact ME.o x i
      ·rcases h9:x.2.ownBlock with _ | b
       ·exact .inl rfl
       ·right
        intro e2;injection e2 with e2
        have:=(World.ownsRow.lt (P.o.ps.kids x (List.mem_append_right _ i)) b h9).2
        omega
     ·rw [HMS.o,lF.o.ps.uT];omega
end
section
variable {g:Nat} {tv:Value} {l:List Tok} {en:Int} {iv:Value} (hF:PF l)
include hF
theorem Yp (m:Nat)(C:∀ f,f≤m→∀ j,isFn j=true→IC g tv l en iv f j)(CL:∀ f,f≤m→∀ e,LC g tv l en iv f e):IC g tv l en iv (m+1) .put:=by
 intro w k xs nv r h hk hn hw X;have H:=O h;clear h;have L:=O (At.refl H.o);have u:=O hw;clear hw;have hn0:(aj xs).length≤k:=by rw [bW];exact hn
 have hlen:=hF.len;rw [run] at X
 unfold pY;go_enter Tryz.func247,Tryz.ntmps247
 have pF:=O X;clear X;rcases eO pF.o with ⟨d,G⟩ | ⟨d,rfl⟩
 rotate_left
 ·have sK:=O d;clear d;go_wp2_with fail;refine (kX g tv l en iv hF _ k _ _ L.o.ps (by omega) sK.o).mono ?_;rintro e w1⟨rfl,U⟩;unfold aX;go_wp2_with fail;exact⟨rfl,bG.bad rfl ((H.o.low L.o.mv).trans (U.mono (aiw L.o.ps.lt)))⟩
 have E:=O G;clear G pF;have hlt1:=lq d (by simp);have sK:=O d;clear d;go_wp2_with fail;refine (jy g tv l en iv hF _ k _ _ L.o.ps (by omega) sK.o).mono ?_;rintro e w1⟨rfl,p1,m1⟩;have D:=O (L.o.step p1 m1);skip;clear p1 m1;unfold g_;have mO:=O (aZ.new w1 131 #[.int .u8 (tg l k).kind,.string (aU (tx l k)),.int .i64 (pl l en k)]);have x:=O (D.o.alloc (.cells #[.int .u8 (tg l k).kind,.string (aU (tx l k)),.int .i64 (pl l en k)] 131));clear D;rcases dI E.o with ⟨i,I⟩ | ⟨i,rfl⟩
 rotate_left
 ·have t:=O i;clear i;go_wp2_with fail;refine (gy g tv l en iv hF [58] (.inr (by decide +kernel)) _ (k+1) _ _ x.o.ps (by omega) t.o).mono ?_;rintro e w2⟨rfl,V⟩;unfold aX;go_wp2_with fail;exact⟨rfl,bG.bad rfl ((H.o.low x.o.mv).trans (V.mono (aiw x.o.ps.lt)))⟩
 have F:=O I;clear I E;have hlt2:=dM i (by simp);have t:=O i;clear i;go_wp2_with fail;refine (eu g tv l en iv hF [58] (.inr (by decide +kernel)) _ (k+1) _ _ x.o.ps (by omega) t.o).mono ?_;rintro e w2⟨rfl,p2,Y⟩;have q:=O (x.o.ps.bH Y mO.o);clear mO;have a:=O (x.o.step p2 Y);clear x;clear p2 Y;rcases dO F.o with ⟨Qk,k3,X0,n,J⟩ | ⟨kb3,n,rfl⟩
 rotate_left
 ·have P:=O n;clear n;have eB:=q.o.cell 0;have eG:=q.o.cell 1;have eH:=q.o.cell 2;have sl0:=q.o.lt;go_wp2_with fail;refine wp_region_held_drew (S:=fun y=>y.cell? ⟨w1.heap.size,0,none⟩=some (.int .u8 (tg l k).kind)∧y.cell? ⟨w1.heap.size,1,none⟩=some (.string (aU (tx l k)))∧y.cell? ⟨w1.heap.size,2,none⟩=some (.int .i64 (pl l en k))) (by kernel_rfl) ⟨eB,eG,eH⟩ (fun c=>?_);refine aO 0 rfl c ?_;simp only [Act.put,ail,ain,aio];refine aO 1 rfl c ?_;simp only [Act.put,ail,ain,aio];refine aO 2 rfl c ?_;simp only [Act.put,ail,ain,aio];refine aO 3 rfl c ?_;simp only [Act.put,ail,ain,aio];refine aO 4 rfl c ?_;simp only [Act.put,ail,ain,aio];refine wpAnyH_ready (rs:=[5]) (by kernel_rfl) (by simp) ?_;refine fO (.s (.s (.s (.s (.s .z))))) (fun K hK=>?_);go_simp;refine (C m (aiv _) .expr rfl _ ((k+1)+1) _ _ _ a.o.ps.drew (by omega) (by rw [a.o.len];omega) (by rw [a.o.ns];exact u.o) (by rw [a.o.ns];exact P.o)).mono ?_;rintro e w3⟨rfl,W⟩;unfold aX;go_wp2_with fail;exact⟨rfl,bG.bad rfl ((Below.drew (H.o.low a.o.mv)).trans W)⟩
 have P:=O n;clear n;have R:=O J;clear J F;have M:=O (dU P.o (by omega) u.o (Ids.nil _) (by simp));have T:=M.o.lo;have gf3:=M.o.few;have ge3:=M.o.le;have gn3:=M.o.len;simp only [Job.reads] at T
 have eB:=q.o.cell 0;have eG:=q.o.cell 1;have eH:=q.o.cell 2;have sl0:=q.o.lt;go_wp2_with fail
 go_region_held3 (fun y=>y.cell? ⟨w1.heap.size,0,none⟩=some (.int .u8 (tg l k).kind)∧y.cell? ⟨w1.heap.size,1,none⟩=some (.string (aU (tx l k)))∧y.cell? ⟨w1.heap.size,2,none⟩=some (.int .i64 (pl l en k)))
  (first | go_keep|(go_split_ands;refine⟨?_,?_,?_⟩ <;> assumption))
  (first
   | (go_at_call 202;refine (C m (aiv _) .expr rfl _ ((k+1)+1) _ _ _ a.o.ps.drew (by omega) (by rw [a.o.len];omega) (by rw [a.o.ns];exact u.o) (by rw [a.o.ns];exact P.o)).mono ?_;rintro e w3⟨rfl,aao,nv3,Q⟩;have A:=O (a.o.drew.trans Q);have B:=Q.blk a.o.ps.drew q.o.drew (by decide) (by decide);have sV:=B.cell 0;have sW:=B.cell 1;have sZ:=B.cell 2;have Wy:=B.lt;have oF:=O B;clear B;have hz3:=A.o.mv.size;clear Q)
   | (go_at_call 196;refine (fV g tv l en iv X0.length 25 _ _ _ (tx l k) 0 _ [hd Qk] _ k3 _ _ (A.o.ps.alloc _) (qc w3 (hd Qk)) A.o.len (by omega)).mono ?_;rintro e w4⟨rfl,U4,p4,Z⟩;have N:=Z.blk (oF.o.alloc _) (A.o.ps.tag oF.o (by decide) (by decide)).1 (A.o.ps.tag oF.o (by decide) (by decide)).2;have tC:=N.cell 0;have tF:=N.cell 1;have tH:=N.cell 2;clear N;have gM:=O ((At.alloc A.o _).add p4 Z (by intro b hb;simp [Value.ownBlock] at hb;omega));clear p4 Z))
 all_goals
  obtain rfl:=dN R.o;go_wp2_with fail;go_ret;exact bG.ok rfl gM.o
end
section
variable {g:Nat} {tv:Value} {l:List Tok} {en:Int} {iv:Value} (hF:PF l)
include hF
theorem OA (m:Nat)(C:∀ f,f≤m→∀ j,isFn j=true→IC g tv l en iv f j)(CL:∀ f,f≤m→∀ e,LC g tv l en iv f e):IC g tv l en iv (m+1) .param:=by
 intro w k xs nv r h hk hn hw X;have H:=O h;clear h;have L:=O (At.refl H.o);have u:=O hw;clear hw;have hn0:(aj xs).length≤k:=by rw [bW];exact hn
 have hlen:=hF.len;rw [run] at X
 unfold pY;go_enter Tryz.func198,Tryz.ntmps198
 have pF:=O X;clear X;rcases eO pF.o with ⟨d,G⟩ | ⟨d,rfl⟩
 rotate_left
 ·have sK:=O d;clear d;go_wp2_with fail;refine (kX g tv l en iv hF _ k _ _ L.o.ps (by omega) sK.o).mono ?_;rintro e w1⟨rfl,U⟩;unfold aX;go_wp2_with fail;exact⟨rfl,bG.bad rfl ((H.o.low L.o.mv).trans (U.mono (aiw L.o.ps.lt)))⟩
 have E:=O G;clear G pF;have hlt1:=lq d (by simp);have sK:=O d;clear d;go_wp2_with fail;refine (jy g tv l en iv hF _ k _ _ L.o.ps (by omega) sK.o).mono ?_;rintro e w1⟨rfl,p1,m1⟩;have D:=O (L.o.step p1 m1);skip;clear p1 m1;unfold g_;have mO:=O (aZ.new w1 131 #[.int .u8 (tg l k).kind,.string (aU (tx l k)),.int .i64 (pl l en k)]);have x:=O (D.o.alloc (.cells #[.int .u8 (tg l k).kind,.string (aU (tx l k)),.int .i64 (pl l en k)] 131));clear D;rcases dI E.o with ⟨i,I⟩ | ⟨i,rfl⟩
 rotate_left
 ·have t:=O i;clear i;go_wp2_with fail;refine (gy g tv l en iv hF [58] (.inr (by decide +kernel)) _ (k+1) _ _ x.o.ps (by omega) t.o).mono ?_;rintro e w2⟨rfl,V⟩;unfold aX;go_wp2_with fail;exact⟨rfl,bG.bad rfl ((H.o.low x.o.mv).trans (V.mono (aiw x.o.ps.lt)))⟩
 have F:=O I;clear I E;have hlt2:=dM i (by simp);have t:=O i;clear i;go_wp2_with fail;refine (eu g tv l en iv hF [58] (.inr (by decide +kernel)) _ (k+1) _ _ x.o.ps (by omega) t.o).mono ?_;rintro e w2⟨rfl,p2,Y⟩;have q:=O (x.o.ps.bH Y mO.o);clear mO;have a:=O (x.o.step p2 Y);clear x;clear p2 Y;rcases dO F.o with ⟨Qk,k3,X0,n,J⟩ | ⟨kb3,n,rfl⟩
 rotate_left
 ·have P:=O n;clear n;have eB:=q.o.cell 0;have eG:=q.o.cell 1;have eH:=q.o.cell 2;have sl0:=q.o.lt;go_wp2_with fail;refine wp_region_held_drew (S:=fun y=>y.cell? ⟨w1.heap.size,0,none⟩=some (.int .u8 (tg l k).kind)∧y.cell? ⟨w1.heap.size,1,none⟩=some (.string (aU (tx l k)))∧y.cell? ⟨w1.heap.size,2,none⟩=some (.int .i64 (pl l en k))) (by kernel_rfl) ⟨eB,eG,eH⟩ (fun c=>?_);refine aO 0 rfl c ?_;simp only [Act.put,ail,ain,aio];refine aO 1 rfl c ?_;simp only [Act.put,ail,ain,aio];refine aO 2 rfl c ?_;simp only [Act.put,ail,ain,aio];refine aO 3 rfl c ?_;simp only [Act.put,ail,ain,aio];refine aO 4 rfl c ?_;simp only [Act.put,ail,ain,aio];refine wpAnyH_ready (rs:=[5]) (by kernel_rfl) (by simp) ?_;refine fO (.s (.s (.s (.s (.s .z))))) (fun K hK=>?_);go_simp;refine (C m (aiv _) .typ rfl _ ((k+1)+1) _ _ _ a.o.ps.drew (by omega) (by rw [a.o.len];omega) (by rw [a.o.ns];exact u.o) (by rw [a.o.ns];exact P.o)).mono ?_;rintro e w3⟨rfl,W⟩;unfold aX;go_wp2_with fail;exact⟨rfl,bG.bad rfl ((Below.drew (H.o.low a.o.mv)).trans W)⟩
 have P:=O n;clear n;have R:=O J;clear J F;have M:=O (dU P.o (by omega) u.o (Ids.nil _) (by simp));have T:=M.o.lo;have gf3:=M.o.few;have ge3:=M.o.le;have gn3:=M.o.len;simp only [Job.reads] at T
 have eB:=q.o.cell 0;have eG:=q.o.cell 1;have eH:=q.o.cell 2;have sl0:=q.o.lt;go_wp2_with fail
 go_region_held3 (fun y=>y.cell? ⟨w1.heap.size,0,none⟩=some (.int .u8 (tg l k).kind)∧y.cell? ⟨w1.heap.size,1,none⟩=some (.string (aU (tx l k)))∧y.cell? ⟨w1.heap.size,2,none⟩=some (.int .i64 (pl l en k)))
  (first | go_keep|(go_split_ands;refine⟨?_,?_,?_⟩ <;> assumption))
  (first
   | (go_at_call 199;refine (C m (aiv _) .typ rfl _ ((k+1)+1) _ _ _ a.o.ps.drew (by omega) (by rw [a.o.len];omega) (by rw [a.o.ns];exact u.o) (by rw [a.o.ns];exact P.o)).mono ?_;rintro e w3⟨rfl,aao,nv3,Q⟩;have A:=O (a.o.drew.trans Q);have B:=Q.blk a.o.ps.drew q.o.drew (by decide) (by decide);have sV:=B.cell 0;have sW:=B.cell 1;have sZ:=B.cell 2;have Wy:=B.lt;have oF:=O B;clear B;have hz3:=A.o.mv.size;clear Q)
   | (go_at_call 196;refine (fV g tv l en iv X0.length 34 _ _ _ (tx l k) 0 _ [hd Qk] _ k3 _ _ (A.o.ps.alloc _) (qc w3 (hd Qk)) A.o.len (by omega)).mono ?_;rintro e w4⟨rfl,U4,p4,Z⟩;have N:=Z.blk (oF.o.alloc _) (A.o.ps.tag oF.o (by decide) (by decide)).1 (A.o.ps.tag oF.o (by decide) (by decide)).2;have tC:=N.cell 0;have tF:=N.cell 1;have tH:=N.cell 2;clear N;have gM:=O ((At.alloc A.o _).add p4 Z (by intro b hb;simp [Value.ownBlock] at hb;omega));clear p4 Z))
 all_goals
  obtain rfl:=dN R.o;go_wp2_with fail;go_ret;exact bG.ok rfl gM.o
end
section
variable {g:Nat} {tv:Value} {l:List Tok} {en:Int} {iv:Value} (hF:PF l)
include hF
theorem Qv (j J:Job)(x:Bs)(hJ:j=.lv .not∧J=.lv .cmp∧x=[110,111,116]∨j=.lv .unary∧J=.post∧x=[45])(hx:Mist.kind x=3∨Mist.kind x=4)(m:Nat)(C:IC g tv l en iv m j)(D:IC g tv l en iv m J):IC g tv l en iv (m+1) j:=by
 intro w k xs nv r h hk hn hw hr;have H:=O h;clear h;have sj:=O (At.refl H.o);have q:=O hw;clear hw;have hn0:(aj xs).length≤k:=by rw [bW];exact hn
 have N:=hF.len;rcases hJ with ⟨rfl,rfl,rfl⟩ | ⟨rfl,rfl,rfl⟩
 all_goals
  rw [run] at hr
  simp only [pY,uQ];have HC:=O C;clear C;have HD:=O D;clear D;go_in
  have pF:=O hr;clear hr;go_wp2_with fail;refine (gY g tv l en iv _ k _ _ sj.o.ps (by omega) N).mono ?_;rintro e w1⟨rfl,M⟩;have I:=O (sj.o.below M);skip;clear M;have R:=O (aZ.new w1 131 #[.int .u8 (tg l k).kind,.string (aU (tx l k)),.int .i64 (pl l en k)]);have y:=O (I.o.alloc (.cells #[.int .u8 (tg l k).kind,.string (aU (tx l k)),.int .i64 (pl l en k)] 131));clear I;rcases fH pF.o with ⟨c,f⟩ | ⟨c,f⟩
  ·skip;have hlt2:=dM c (by simp);have u:=O c;clear c;have n:=O f;clear f;go_wp2_with fail;refine (jc g tv l en iv hF _ hx _ k _ _ y.o.ps (by omega) u.o).mono ?_;rintro e w3⟨rfl,p3,m3⟩;have t:=O (y.o.ps.bH m3 R.o);clear R;have d:=O (y.o.step p3 m3);clear y;clear p3 m3;rcases dO n.o with ⟨Q,k4,X3,i,P⟩ | ⟨kb4,i,rfl⟩
   rotate_left
   ·have V:=O i;clear i;have eB:=t.o.cell 0;have eG:=t.o.cell 1;have eH:=t.o.cell 2;have sl0:=t.o.lt;go_wp2_with fail;refine wp_region_held_drew (S:=fun B=>B.cell? ⟨w1.heap.size,0,none⟩=some (.int .u8 (tg l k).kind)∧B.cell? ⟨w1.heap.size,1,none⟩=some (.string (aU (tx l k)))∧B.cell? ⟨w1.heap.size,2,none⟩=some (.int .i64 (pl l en k))) (by kernel_rfl) ⟨eB,eG,eH⟩ (fun a=>?_);refine aO 0 rfl a ?_;simp only [Act.put,ail,ain,aio];refine aO 1 rfl a ?_;simp only [Act.put,ail,ain,aio];refine aO 2 rfl a ?_;simp only [Act.put,ail,ain,aio];refine wpAnyH_ready (rs:=[3]) (by kernel_rfl) (by simp) ?_;refine fO (.s (.s (.s .z))) (fun K hK=>?_);go_simp;refine (HC.o _ (k+1) _ _ _ d.o.ps.drew (by omega) (by rw [d.o.len];omega) (by rw [d.o.ns];exact q.o) (by rw [d.o.ns];exact V.o)).mono ?_;rintro e w4⟨rfl,hb4⟩;unfold aX;go_wp2_with fail;exact⟨rfl,bG.bad rfl ((Below.drew (H.o.low d.o.mv)).trans hb4)⟩
   have V:=O i;clear i;have X:=O P;clear P n;have T:=O (dU V.o (by omega) q.o (Ids.nil _) (by simp));have gl4:=T.o.lo;have gf4:=T.o.few;have ge4:=T.o.le;have gn4:=T.o.len;simp only [Job.reads] at gl4
   have eB:=t.o.cell 0;have eG:=t.o.cell 1;have eH:=t.o.cell 2;have sl0:=t.o.lt;go_wp2_with fail
   go_region_held3 (fun B=>B.cell? ⟨w1.heap.size,0,none⟩=some (.int .u8 (tg l k).kind)∧B.cell? ⟨w1.heap.size,1,none⟩=some (.string (aU (tx l k)))∧B.cell? ⟨w1.heap.size,2,none⟩=some (.int .i64 (pl l en k)))
    (first | go_keep|(go_split_ands;refine⟨?_,?_,?_⟩ <;> assumption))
    (first
     | (go_at_call 196;refine (fV g tv l en iv X3.length _ _ _ _ [] 0 _ [hd Q] _ k4 _ _ (F.o.ps.alloc _) (qc w4 (hd Q)) F.o.len (by omega)).mono ?_;rintro e w5⟨rfl,nv5,p5,m5⟩;have U:=m5.blk (Z.o.alloc _) (F.o.ps.tag Z.o (by decide) (by decide)).1 (F.o.ps.tag Z.o (by decide) (by decide)).2;have tC:=U.cell 0;have tF:=U.cell 1;have tH:=U.cell 2;clear U;have lF:=O ((At.alloc F.o _).add p5 m5 (by intro b hb;simp [Value.ownBlock] at hb;omega));clear p5 m5)
     | (refine (HC.o _ (k+1) _ _ _ d.o.ps.drew (by omega) (by rw [d.o.len];omega) (by rw [d.o.ns];exact q.o) (by rw [d.o.ns];exact V.o)).mono ?_;rintro e w4⟨rfl,zi,U4,Y⟩;have F:=O (d.o.drew.trans Y);have E:=Y.blk d.o.ps.drew t.o.drew (by decide) (by decide);have sV:=E.cell 0;have sW:=E.cell 1;have sZ:=E.cell 2;have Wy:=E.lt;have Z:=O E;clear E;have hz4:=F.o.mv.size;clear Y))
   all_goals
    obtain rfl:=dN X.o;go_wp2_with fail;go_ret;exact bG.ok rfl lF.o
  ·skip;have u:=O c;clear c;have n:=O f;clear f;go_wp2_with fail;refine (kP g tv l en iv hF _ hx _ k _ _ y.o.ps (by omega) u.o).mono ?_;rintro e w6⟨rfl,A⟩;have nZ:=O (R.o.below A R.o.lt);clear R;have G:=O (y.o.below A);clear y;clear A;have HX:=O n.o;go_wp2_with fail;have HQ:=O (HD.o _ k _ _ r G.o.ps (by omega) (by rw [G.o.len];omega) (by rw [G.o.ns];exact q.o) (by rw [G.o.ns];exact HX.o))
   cases r with
   | bad kb =>
    refine HQ.o.mono ?_;rintro e wq⟨rfl,hbq⟩;unfold aX;go_wp2_with fail;exact⟨rfl,bG.bad rfl ((H.o.low G.o.mv).trans hbq)⟩
   | ok ksq kq nsq =>
    refine HQ.o.mono ?_;rintro e wq⟨rfl,aec,nvq,L⟩;have W:=O (G.o.trans L);clear L;go_wp2_with fail;go_ret;exact bG.ok rfl W.o
end
section
variable {g:Nat} {tv:Value} {l:List Tok} {en:Int} {iv:Value} (hF:PF l)
include hF
theorem Tq (m:Nat)(C:∀ f,f≤m→∀ j,isFn j=true→IC g tv l en iv f j)(CL:∀ f,f≤m→∀ e,LC g tv l en iv f e):IC g tv l en iv (m+1) .expr:=by
 intro w k xs nv r h hk hn hw hr;have H:=O h;clear h;have sj:=O (At.refl H.o);have d:=O hw;clear hw;have hn0:(aj xs).length≤k:=by rw [bW];exact hn
 have hlen:=hF.len;rw [run] at hr
 unfold pY;go_enter Tryz.func202,Tryz.ntmps202
 have pF:=O hr;clear hr;go_wp2_with fail;refine (gY g tv l en iv _ k _ _ sj.o.ps (by omega) hlen).mono ?_;rintro e w1⟨rfl,hb1⟩;have HA1:=O (sj.o.below hb1);skip;clear hb1;have mO:=O (aZ.new w1 131 #[.int .u8 (tg l k).kind,.string (aU (tx l k)),.int .i64 (pl l en k)]);have V:=O (HA1.o.alloc (.cells #[.int .u8 (tg l k).kind,.string (aU (tx l k)),.int .i64 (pl l en k)] 131));clear HA1;rcases fH pF.o with ⟨i,x⟩ | ⟨i,x⟩
 ·skip;have hlt2:=dM i (by simp);have T:=O i;clear i;have D:=O x;clear x;go_wp2_with fail;refine (jc g tv l en iv hF [105,102] (.inl (by decide +kernel)) _ k _ _ V.o.ps (by omega) T.o).mono ?_;rintro e w3⟨rfl,p3,m3⟩;have iF:=O (V.o.ps.bH m3 mO.o);clear mO;have q:=O (V.o.step p3 m3);clear V;clear p3 m3;rcases dO D.o with ⟨ks4,k4,X3,y,hr4⟩ | ⟨kb4,y,rfl⟩
  rotate_left
  ·have PN:=O y;clear y;go_wp2_with fail;refine (C m (aiv _) .expr rfl _ (k+1) _ _ _ q.o.ps (by omega) (by rw [q.o.len];omega) (by rw [q.o.ns];exact d.o) (by rw [q.o.ns];exact PN.o)).mono ?_;rintro e w4⟨rfl,hb4⟩;unfold aX;go_wp2_with fail;exact⟨rfl,bG.bad rfl ((H.o.low q.o.mv).trans hb4)⟩
  have PN:=O y;clear y;have HR4:=O hr4;clear hr4 D;go_wp2_with fail;refine (C m (aiv _) .expr rfl _ (k+1) _ _ _ q.o.ps (by omega) (by rw [q.o.len];omega) (by rw [q.o.ns];exact d.o) (by rw [q.o.ns];exact PN.o)).mono ?_;rintro e w4⟨rfl,zi,U4,IX⟩;have LB:=O (dU PN.o (by omega) d.o (Ids.nil _) (by simp));have gl4:=LB.o.lo;have gf4:=LB.o.few;have ge4:=LB.o.le;have gn4:=LB.o.len;simp only [Job.reads] at gl4
  have fU:=O (IX.blk q.o.ps iF.o (by decide) (by decide));clear iF;have ZH:=O LB.o.wf;have W:=O (q.o.trans IX);clear q;clear IX;rcases dI HR4.o with ⟨uP,J9⟩ | ⟨uP,rfl⟩
  rotate_left
  ·have Jb:=O uP;clear uP;go_wp2_with fail;refine (gy g tv l en iv hF [116,104,101,110] (.inl (by decide +kernel)) _ k4 _ _ W.o.ps (by omega) Jb.o).mono ?_;rintro e w5⟨rfl,hb5⟩;unfold aX;go_wp2_with fail;exact⟨rfl,bG.bad rfl ((H.o.low W.o.mv).trans (hb5.mono (aiw W.o.ps.lt)))⟩
  have uM:=O J9;clear J9 HR4;have ac1:=dM uP (by simp);have Jb:=O uP;clear uP;go_wp2_with fail;refine (eu g tv l en iv hF [116,104,101,110] (.inl (by decide +kernel)) _ k4 _ _ W.o.ps (by omega) Jb.o).mono ?_;rintro e w5⟨rfl,p5,m5⟩;have mK:=O (W.o.ps.bH m5 fU.o);clear fU;have t:=O (W.o.step p5 m5);clear W;clear p5 m5;rcases dO uM.o with ⟨ks6,k6,ns6,A,Xj⟩ | ⟨kb6,A,rfl⟩
  rotate_left
  ·have ZU:=O A;clear A;go_wp2_with fail;refine (C m (aiv _) .expr rfl _ (k4+1) _ _ _ t.o.ps (by omega) (by rw [t.o.len];omega) (by rw [t.o.ns];exact ZH.o) (by rw [t.o.ns];exact ZU.o)).mono ?_;rintro e w6⟨rfl,hb6⟩;unfold aX;go_wp2_with fail;exact⟨rfl,bG.bad rfl ((H.o.low t.o.mv).trans hb6)⟩
  have ZU:=O A;clear A;have Bg:=O Xj;clear Xj uM;go_wp2_with fail;refine (C m (aiv _) .expr rfl _ (k4+1) _ _ _ t.o.ps (by omega) (by rw [t.o.len];omega) (by rw [t.o.ns];exact ZH.o) (by rw [t.o.ns];exact ZU.o)).mono ?_;rintro e w6⟨rfl,afI,nv6,X⟩;have Vb:=O (dU ZU.o (by omega) ZH.o (Ids.nil _) (by simp));have gl6:=Vb.o.lo;have gf6:=Vb.o.few;have ge6:=Vb.o.le;have gn6:=Vb.o.len;simp only [Job.reads] at gl6
  have nZ:=O (X.blk t.o.ps mK.o (by decide) (by decide));clear mK;have ZI:=O Vb.o.wf;have qX:=O (t.o.trans X);clear t;clear X;rcases dI Bg.o with ⟨FI,hr7⟩ | ⟨FI,rfl⟩
  rotate_left
  ·have UO:=O FI;clear FI;go_wp2_with fail;refine (gy g tv l en iv hF [101,108,115,101] (.inl (by decide +kernel)) _ k6 _ _ qX.o.ps (by omega) UO.o).mono ?_;rintro e w7⟨rfl,om⟩;unfold aX;go_wp2_with fail;exact⟨rfl,bG.bad rfl ((H.o.low qX.o.mv).trans (om.mono (aiw qX.o.ps.lt)))⟩
  have UY:=O hr7;clear hr7 Bg;have aes:=dM FI (by simp);have UO:=O FI;clear FI;go_wp2_with fail;refine (eu g tv l en iv hF [101,108,115,101] (.inl (by decide +kernel)) _ k6 _ _ qX.o.ps (by omega) UO.o).mono ?_;rintro e w7⟨rfl,p7,m7⟩;have F:=O (qX.o.ps.bH m7 nZ.o);clear nZ;have B:=O (qX.o.step p7 m7);clear qX;clear p7 m7;rcases dO UY.o with ⟨Zi,k8,ns8,J_,Qf⟩ | ⟨kb8,J_,rfl⟩
  rotate_left
  ·have PO:=O J_;clear J_;have eB:=F.o.cell 0;have eG:=F.o.cell 1;have eH:=F.o.cell 2;have sl0:=F.o.lt;go_wp2_with fail;refine wp_region_held_drew (S:=fun c=>c.cell? ⟨w1.heap.size,0,none⟩=some (.int .u8 (tg l k).kind)∧c.cell? ⟨w1.heap.size,1,none⟩=some (.string (aU (tx l k)))∧c.cell? ⟨w1.heap.size,2,none⟩=some (.int .i64 (pl l en k))) (by kernel_rfl) ⟨eB,eG,eH⟩ (fun a=>?_);refine aO 0 rfl a ?_;simp only [Act.put,ail,ain,aio];refine aO 1 rfl a ?_;simp only [Act.put,ail,ain,aio];refine aO 2 rfl a ?_;simp only [Act.put,ail,ain,aio];refine aO 3 rfl a ?_;simp only [Act.put,ail,ain,aio];refine aO 4 rfl a ?_;simp only [Act.put,ail,ain,aio];refine wpAnyH_ready (rs:=[5]) (by kernel_rfl) (by simp) ?_;refine fO (.s (.s (.s (.s (.s .z))))) (fun K hK=>?_);go_simp;refine (C m (aiv _) .expr rfl _ (k6+1) _ _ _ B.o.ps.drew (by omega) (by rw [B.o.len];omega) (by rw [B.o.ns];exact ZI.o) (by rw [B.o.ns];exact PO.o)).mono ?_;rintro e w8⟨rfl,nC⟩;unfold aX;go_wp2_with fail;exact⟨rfl,bG.bad rfl ((Below.drew (H.o.low B.o.mv)).trans nC)⟩
  have PO:=O J_;clear J_;have Fb:=O Qf;clear Qf UY;have LH:=O (dU PO.o (by omega) ZI.o (Ids.nil _) (by simp));have gl8:=LH.o.lo;have gf8:=LH.o.few;have ge8:=LH.o.le;have gn8:=LH.o.len;simp only [Job.reads] at gl8
  have eB:=F.o.cell 0;have eG:=F.o.cell 1;have eH:=F.o.cell 2;have sl0:=F.o.lt;go_wp2_with fail
  go_region_held3 (fun c=>c.cell? ⟨w1.heap.size,0,none⟩=some (.int .u8 (tg l k).kind)∧c.cell? ⟨w1.heap.size,1,none⟩=some (.string (aU (tx l k)))∧c.cell? ⟨w1.heap.size,2,none⟩=some (.int .i64 (pl l en k)))
   (first | go_keep|(go_split_ands;refine⟨?_,?_,?_⟩ <;> assumption))
   (first
    | (go_at_call 202;refine (C m (aiv _) .expr rfl _ (k6+1) _ _ _ B.o.ps.drew (by omega) (by rw [B.o.len];omega) (by rw [B.o.ns];exact ZI.o) (by rw [B.o.ns];exact PO.o)).mono ?_;rintro e w8⟨rfl,aeb,nv8,R4⟩;have yS:=O (B.o.drew.trans R4);have Fv:=R4.blk B.o.ps.drew F.o.drew (by decide) (by decide);have sV:=Fv.cell 0;have sW:=Fv.cell 1;have sZ:=Fv.cell 2;have Wy:=Fv.lt;have VZ:=O Fv;clear Fv;have hz8:=yS.o.mv.size;clear R4)
    | (go_at_call 196;refine (fV g tv l en iv ns8.length 19 _ _ _ [] 0 _ [hd ks4,hd ks6,hd Zi] _ k8 _ _ (yS.o.ps.alloc _) (SL w8 (hd ks4) (hd ks6) (hd Zi)) yS.o.len (by omega)).mono ?_;rintro e w9⟨rfl,nv9,p9,m9⟩;have P_:=m9.blk (VZ.o.alloc _) (yS.o.ps.tag VZ.o (by decide) (by decide)).1 (yS.o.ps.tag VZ.o (by decide) (by decide)).2;have tC:=P_.cell 0;have tF:=P_.cell 1;have tH:=P_.cell 2;clear P_;have vW:=O ((At.alloc yS.o _).add p9 m9 (by intro b hb;simp [Value.ownBlock] at hb;omega));clear p9 m9))
  all_goals
   obtain rfl:=dN Fb.o;go_wp2_with fail;go_ret;exact bG.ok rfl vW.o
 ·skip;have T:=O i;clear i;have D:=O x;clear x;go_wp2_with fail;refine (kP g tv l en iv hF [105,102] (.inl (by decide +kernel)) _ k _ _ V.o.ps (by omega) T.o).mono ?_;rintro e w10⟨rfl,WT⟩;have mU:=O (mO.o.below WT mO.o.lt);clear mO;have qZ:=O (V.o.below WT);clear V;clear WT;rcases fH D.o with ⟨zC,J4⟩ | ⟨zC,J4⟩
  ·skip;have aem:=dM zC (by simp);have Mi:=O zC;clear zC;have Ra:=O J4;clear J4;go_wp2_with fail;refine (jc g tv l en iv hF [108,101,116] (.inl (by decide +kernel)) _ k _ _ qZ.o.ps (by omega) Mi.o).mono ?_;rintro e w12⟨rfl,p12,Y⟩;have oC:=O (qZ.o.ps.bH Y mU.o);clear mU;have oz:=O (qZ.o.step p12 Y);clear qZ;clear p12 Y;rcases eO Ra.o with ⟨qL,Dk⟩ | ⟨qL,rfl⟩
   rotate_left
   ·have Cj:=O qL;clear qL;go_wp2_with fail;refine (kX g tv l en iv hF _ (k+1) _ _ oz.o.ps (by omega) Cj.o).mono ?_;rintro e N⟨rfl,NG⟩;unfold aX;go_wp2_with fail;exact⟨rfl,bG.bad rfl ((H.o.low oz.o.mv).trans (NG.mono (aiw oz.o.ps.lt)))⟩
   have Ey:=O Dk;clear Dk Ra;have abL:=lq qL (by simp);have Cj:=O qL;clear qL;go_wp2_with fail;refine (jy g tv l en iv hF _ (k+1) _ _ oz.o.ps (by omega) Cj.o).mono ?_;rintro e N⟨rfl,p13,Z⟩;have rz:=O (oz.o.ps.bH Z oC.o);clear oC;have nG:=O (oz.o.step p13 Z);clear oz;clear p13 Z;unfold g_;have I5:=O (rz.o.alloc (.cells #[.int .u8 (tg l (k+1)).kind,.string (aU (tx l (k+1))),.int .i64 (pl l en (k+1))] 131));clear rz;have adE:=O (aZ.new N 131 #[.int .u8 (tg l (k+1)).kind,.string (aU (tx l (k+1))),.int .i64 (pl l en (k+1))]);have R:=O (nG.o.alloc (.cells #[.int .u8 (tg l (k+1)).kind,.string (aU (tx l (k+1))),.int .i64 (pl l en (k+1))] 131));clear nG;rcases dI Ey.o with ⟨zF,J6⟩ | ⟨zF,rfl⟩
   rotate_left
   ·have Mj:=O zF;clear zF;go_wp2_with fail;refine (gy g tv l en iv hF [61] (.inr (by decide +kernel)) _ ((k+1)+1) _ _ R.o.ps (by omega) Mj.o).mono ?_;rintro e w14⟨rfl,WW⟩;unfold aX;go_wp2_with fail;exact⟨rfl,bG.bad rfl ((H.o.low R.o.mv).trans (WW.mono (aiw R.o.ps.lt)))⟩
   have Ji:=O J6;clear J6 Ey;have aen:=dM zF (by simp);have Mj:=O zF;clear zF;go_wp2_with fail;refine (eu g tv l en iv hF [61] (.inr (by decide +kernel)) _ ((k+1)+1) _ _ R.o.ps (by omega) Mj.o).mono ?_;rintro e w14⟨rfl,p14,I⟩;have oD:=O (R.o.ps.bH I I5.o);have Vd:=O (R.o.ps.bH I adE.o);clear I5 adE;have n:=O (R.o.step p14 I);clear R;clear p14 I;rcases dO Ji.o with ⟨ada,G,agC,Dm,Dl⟩ | ⟨agk,Dm,rfl⟩
   rotate_left
   ·have Gy:=O Dm;clear Dm;go_wp2_with fail;refine (C m (aiv _) .expr rfl _ (((k+1)+1)+1) _ _ _ n.o.ps (by omega) (by rw [n.o.len];omega) (by rw [n.o.ns];exact d.o) (by rw [n.o.ns];exact Gy.o)).mono ?_;rintro e w15⟨rfl,NH⟩;unfold aX;go_wp2_with fail;exact⟨rfl,bG.bad rfl ((H.o.low n.o.mv).trans NH)⟩
   have Gy:=O Dm;clear Dm;have Gt:=O Dl;clear Dl Ji;go_wp2_with fail;refine (C m (aiv _) .expr rfl _ (((k+1)+1)+1) _ _ _ n.o.ps (by omega) (by rw [n.o.len];omega) (by rw [n.o.ns];exact d.o) (by rw [n.o.ns];exact Gy.o)).mono ?_;rintro e w15⟨rfl,ad8,agH,JV⟩;have Ce:=O (dU Gy.o (by omega) d.o (Ids.nil _) (by simp));have acM:=Ce.o.lo;have afL:=Ce.o.few;have afK:=Ce.o.le;have afW:=Ce.o.len;simp only [Job.reads] at acM
   have lU:=O (JV.blk n.o.ps oD.o (by decide) (by decide));have L_:=O (JV.blk n.o.ps Vd.o (by decide) (by decide));clear oD Vd;have PE:=O Ce.o.wf;have Q:=O (n.o.trans JV);clear n;clear JV;rcases dI Gt.o with ⟨zH,Xf⟩ | ⟨zH,rfl⟩
   rotate_left
   ·have Ml:=O zH;clear zH;go_wp2_with fail;refine (gy g tv l en iv hF [105,110] (.inl (by decide +kernel)) _ G _ _ Q.o.ps (by omega) Ml.o).mono ?_;rintro e w16⟨rfl,acT⟩;unfold aX;go_wp2_with fail;exact⟨rfl,bG.bad rfl ((H.o.low Q.o.mv).trans (acT.mono (aiw Q.o.ps.lt)))⟩
   have ZB:=O Xf;clear Xf Gt;have aep:=dM zH (by simp);have Ml:=O zH;clear zH;go_wp2_with fail;refine (eu g tv l en iv hF [105,110] (.inl (by decide +kernel)) _ G _ _ Q.o.ps (by omega) Ml.o).mono ?_;rintro e w16⟨rfl,p16,J⟩;have M:=O (Q.o.ps.bH J lU.o);have Cg:=O (Q.o.ps.bH J L_.o);clear lU L_;have u:=O (Q.o.step p16 J);clear Q;clear p16 J;rcases dO ZB.o with ⟨aeP,k17,agD,Xr,aev⟩ | ⟨ah0,Xr,rfl⟩
   rotate_left
   ·have ZM:=O Xr;clear Xr;have eB:=M.o.cell 0;have eG:=M.o.cell 1;have eH:=M.o.cell 2;have sl0:=M.o.lt;have qU:=Cg.o.cell 1;have sl1:=Cg.o.lt;go_wp2_with fail;refine wp_region_held_drew (S:=fun c=>c.cell? ⟨w1.heap.size,0,none⟩=some (.int .u8 (tg l k).kind)∧c.cell? ⟨w1.heap.size,1,none⟩=some (.string (aU (tx l k)))∧c.cell? ⟨w1.heap.size,2,none⟩=some (.int .i64 (pl l en k))∧c.cell? ⟨N.heap.size,1,none⟩=some (.string (aU (tx l (k+1))))) (by kernel_rfl) ⟨eB,eG,eH,qU⟩ (fun a=>?_);refine aO 0 rfl a ?_;simp only [Act.put,ail,ain,aio];refine aO 1 rfl a ?_;simp only [Act.put,ail,ain,aio];refine aO 2 rfl a ?_;simp only [Act.put,ail,ain,aio];refine aO 3 rfl a ?_;simp only [Act.put,ail,ain,aio];refine aO 4 rfl a ?_;simp only [Act.put,ail,ain,aio];refine aO 5 rfl a ?_;simp only [Act.put,ail,ain,aio];refine wpAnyH_ready (rs:=[6]) (by kernel_rfl) (by simp) ?_;refine fO (.s (.s (.s (.s (.s (.s .z)))))) (fun K hK=>?_);go_simp;refine (C m (aiv _) .expr rfl _ (G+1) _ _ _ u.o.ps.drew (by omega) (by rw [u.o.len];omega) (by rw [u.o.ns];exact PE.o) (by rw [u.o.ns];exact ZM.o)).mono ?_;rintro e w17⟨rfl,zB⟩;unfold aX;go_wp2_with fail;exact⟨rfl,bG.bad rfl ((Below.drew (H.o.low u.o.mv)).trans zB)⟩
   have ZM:=O Xr;clear Xr;have afq:=O aev;clear aev ZB;have Zm:=O (dU ZM.o (by omega) PE.o (Ids.nil _) (by simp));have afR:=Zm.o.lo;have ahy:=Zm.o.few;have ahq:=Zm.o.le;have ahG:=Zm.o.len;simp only [Job.reads] at afR
   have eB:=M.o.cell 0;have eG:=M.o.cell 1;have eH:=M.o.cell 2;have sl0:=M.o.lt;have qU:=Cg.o.cell 1;have sl1:=Cg.o.lt;go_wp2_with fail
   go_region_held3 (fun c=>c.cell? ⟨w1.heap.size,0,none⟩=some (.int .u8 (tg l k).kind)∧c.cell? ⟨w1.heap.size,1,none⟩=some (.string (aU (tx l k)))∧c.cell? ⟨w1.heap.size,2,none⟩=some (.int .i64 (pl l en k))∧c.cell? ⟨N.heap.size,1,none⟩=some (.string (aU (tx l (k+1)))))
    (first | go_keep|(go_split_ands;refine⟨?_,?_,?_,?_⟩ <;> assumption))
    (first
     | (go_at_call 202;refine (C m (aiv _) .expr rfl _ (G+1) _ _ _ u.o.ps.drew (by omega) (by rw [u.o.len];omega) (by rw [u.o.ns];exact PE.o) (by rw [u.o.ns];exact ZM.o)).mono ?_;rintro e w17⟨rfl,ag6,ah9,E⟩;have P:=O (u.o.drew.trans E);have ze:=E.blk u.o.ps.drew M.o.drew (by decide) (by decide);have sV:=ze.cell 0;have sW:=ze.cell 1;have sZ:=ze.cell 2;have Wy:=ze.lt;have MS:=O ze;clear ze;have GJ:=E.blk u.o.ps.drew Cg.o.drew (by decide) (by decide);have Ww:=GJ.cell 1;have dl1:=GJ.lt;have MU:=O GJ;clear GJ;have ahU:=P.o.mv.size;clear E)
     | (go_at_call 196;refine (fV g tv l en iv agD.length 20 _ _ _ (tx l (k+1)) 0 _ [hd ada,hd aeP] _ k17 _ _ (P.o.ps.alloc _) (BN w17 (hd ada) (hd aeP)) P.o.len (by omega)).mono ?_;rintro e w18⟨rfl,agJ,p18,L⟩;have GK:=L.blk (MS.o.alloc _) (P.o.ps.tag MS.o (by decide) (by decide)).1 (P.o.ps.tag MS.o (by decide) (by decide)).2;have tC:=GK.cell 0;have tF:=GK.cell 1;have tH:=GK.cell 2;clear GK;have Ws:=L.blk (MU.o.alloc _) (P.o.ps.tag MU.o (by decide) (by decide)).1 (P.o.ps.tag MU.o (by decide) (by decide)).2;have Wz:=Ws.cell 1;clear Ws;have IZ:=O ((At.alloc P.o _).add p18 L (by intro b hb;simp [Value.ownBlock] at hb;omega));clear p18 L))
   all_goals
    obtain rfl:=dN afq.o;go_wp2_with fail;go_ret;exact bG.ok rfl IZ.o
  ·skip;have Mi:=O zC;clear zC;have Ra:=O J4;clear J4;go_wp2_with fail;refine (kP g tv l en iv hF [108,101,116] (.inl (by decide +kernel)) _ k _ _ qZ.o.ps (by omega) Mi.o).mono ?_;rintro e w19⟨rfl,U⟩;have Ma:=O (mU.o.below U mU.o.lt);clear mU;have pG:=O (qZ.o.below U);clear qZ;clear U;have HX:=O Ra.o;go_wp2_with fail;have HQ:=O (C m (aiv _) (.lv .or) rfl _ k _ _ r pG.o.ps (by omega) (by rw [pG.o.len];omega) (by rw [pG.o.ns];exact d.o) (by rw [pG.o.ns];exact HX.o))
   cases r with
   | bad kb =>
    refine HQ.o.mono ?_;rintro e wq⟨rfl,hbq⟩;unfold aX;go_wp2_with fail;exact⟨rfl,bG.bad rfl ((H.o.low pG.o.mv).trans hbq)⟩
   | ok ksq kq nsq =>
    refine HQ.o.mono ?_;rintro e wq⟨rfl,aec,nvq,haq⟩;have HAQ:=O (pG.o.trans haq);clear haq;go_wp2_with fail;go_ret;exact bG.ok rfl HAQ.o
end
