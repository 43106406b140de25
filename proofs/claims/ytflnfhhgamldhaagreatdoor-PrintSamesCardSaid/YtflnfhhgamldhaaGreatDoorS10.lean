/-
  A part of the proof.
-/
import Derived.Test.YtflnfhhgamldhaaGreatDoorS09
set_option linter.all false
set_option maxRecDepth 100000
set_option maxHeartbeats 4000000
namespace Go.Proofs.YtflnfhhgamldhaaGreatDoor
open Go.RowKit Mist
attribute [local go_sem] ah aM aV au ak
section
variable {g:Nat} {tv:Value} {l:List Tok} {en:Int} {iv:Value} (hF:PF l)
include hF
theorem Jy (c:El)(m:Nat)(C:∀ f,f≤m→IC g tv l en iv f c.job):LC g tv l en iv (m+1) c:=by
 have hem:∀ args W,Sem.run Tryz.prog (callFunc (abX c) args) W=.ok (.enter (abX c) args) W:=by intro args W;cases c <;> kernel_rfl
 have hr1:c.job.reads=1:=by cases c <;> rfl
 have hjf:ru c.job=abX c:=by cases c <;> rfl
 unfold IC at C
 rw [hjf] at C
 clear hjf;intro w k xs nv r h hk hn hw hr;have HC:=O C;clear C;have H:=O h;clear h;have HW:=O hw;clear hw;have HR:=O (show thn (run l en m c.job k (aF xs)) (fun a A J=>run l en m (.gQ c [hd a]) A J)=some r by rw [run] at hr;exact hr);clear hr;have hlen:=hF.len;obtain⟨i0,hi0,hz0,hz1,hz2⟩:=info_parts kR;go_enter Tryz.func152,Tryz.ntmps152
 go_wp2_with fail;rcases i:run l en m c.job k (aF xs) with _ | x
 ·have:=HR.o;rw [i] at this;cases this
 have F:=O i;clear i;have K:=O (show thn (some x) (fun a A J=>run l en m (.gQ c [hd a]) A J)=some r by have:=HR.o;rwa [F.o] at this);clear HR
 cases x with
 | bad kb =>
  obtain rfl:kX.bad kb=r:=ak6 K.o;refine (HC.o m (ak0 _) _ k xs nv _ H.o hk hn HW.o F.o).mono ?_;rintro e w1⟨rfl,hb⟩;unfold aW;go_wp2_with fail;exact⟨rfl,A8.bad rfl hb⟩
 | ok ks A J =>
  have B:=O (dG F.o hk HW.o (by cases c <;> exact Ids.nil _) (by cases c <;> simp [El.job]));refine (HC.o m (ak0 _) _ k xs nv _ H.o hk hn HW.o F.o).mono ?_;rintro e w1⟨rfl,ext,gT,ha⟩;have t:=O ha;clear ha;have L:=O (show run l en m (.gQ c [hd ks]) A (aF (xs ++ ext))=some r by rw [t.o.ns];exact K.o);clear K F;have hk1:=B.o.le;have hf1:=B.o.few;have hg1:=B.o.lo;simp only [hr1] at hg1
  rw [dL] at hf1
  have hl1:=t.o.len;have R:=O (show Wf (aF (xs ++ ext)) by rw [t.o.ns];exact B.o.wf);have X:=O (show Ids [hd ks] (xs ++ ext).length by rw [hl1];exact Ids.cons B.o.hd (Ids.nil _));have hcn:(xs ++ ext).length≤A:=by omega
  have hsz:=t.o.mv.size;have D:=O (show (w1.alloc (.cells #[.int .i64 (hd ks)] 3)).ownsRow w.heap.size 3 1 (.slice (some ⟨w1.heap.size,0,none⟩) 1 1) 1 (intCells [hd ks]) from World.ownsRow_lit w1 _ 1 hsz (by simp [maxLen]) rfl);have Y:=O (show ∀ x ∈ ext,x.2.ownBlock=none∨x.2.ownBlock ≠ (Value.slice (some ⟨w1.heap.size,0,none⟩) 1 1).ownBlock from fun x i=>t.o.ps.acp i (ak0 _));have G:=O (t.o.alloc (.cells #[.int .i64 (hd ks)] 3));have hk0:1≤A:=by omega
  clear hl1 hf1 B t hg1;obtain⟨av,hav⟩:∃ av,av=hd ks:=⟨_,rfl⟩;rw [← hav] at L X D G ⊢
  clear hav;have FY:=O G.o.ns;go_wp2_with fail
  go_loopw [5] (fun v wr=>∃ (f y:Nat) (ext:List NV) (gB:Value) (d:List Int) (q:Nat),f≤m∧y≤l.length∧(xs ++ ext).length≤y∧q≤y∧Hid (d.length=q)∧0 < q∧Hid (run l en f (.gQ c d) y (aF (xs ++ ext))=some r)∧Hid (Wf (aF (xs ++ ext)))∧Hid (Ids d (xs ++ ext).length) ∧
    Hid (At g tv l en iv w xs nv y (aF (xs ++ ext)) wr ext gB)∧wr.ownsRow w.heap.size 3 1 v q (intCells d)∧Hid (∀ x ∈ ext,x.2.ownBlock=none∨x.2.ownBlock ≠ v.ownBlock)) (fun _ wr=>vU g l.length wr)
  case atStart=>exact⟨m,A,ext,gT,[av],1,ak0 _,hk1,hcn,hk0,O rfl,by omega,L,R,X,by rw [FY.o];exact G,D.o,Y⟩
  case round =>
   clear G D Y L R X hcn hk1 FY hk0;obtain⟨f,y,ext,gB,d,q,hfm,hk',hn',hq',HQ,hq0,I4,R,X,t,E,Y⟩:=hrel
   obtain⟨f,rfl⟩:∃ f0,f=f0+1:=⟨f - 1,by
    rcases Nat.eq_zero_or_pos f with h | h
    ·subst h;have:=I4.o;rw [run] at this;cases this
    ·omega⟩
   have HMS:=O (t.o.ps.vU (n:=l.length));obtain⟨A5,c5,rfl⟩:=d_ E;have D:=O E;clear E;by_cases S:tx l y=[44]
   case neg =>
    have HST:=O (show r=.ok d y (aF (xs ++ ext)) by have:=I4.o;rw [run,if_neg S] at this;exact (ak6 this).symm);go_wp2_with fail;refine (kY g tv l en iv hF [44] (.inr (by decide +kernel)) _ y _ gB t.o.ps hk' S).mono ?_;rintro e w2⟨rfl,M⟩;have j:=O (t.o.below M);have I:=O (own_below D.o M);clear M;go_wp2_with fail;go_ret;rw [HST.o];exact A8.ok rfl (by rw [HQ.o];exact I.o) j.o Y.o
   case pos =>
    have hkl:=cB S (by simp);have WL:=O (show thn (run l en f c.job (y+1) (aF (xs ++ ext))) (fun a A J=>run l en f (.gQ c (d ++ [hd a])) A J)=some r by have:=I4.o;rw [run,if_pos S] at this;exact this);go_wp2_with fail;refine (jI g tv l en iv hF [44] (.inr (by decide +kernel)) _ y _ gB t.o.ps hk' S).mono ?_;rintro e w2⟨rfl,p2,m2⟩;have j:=O (t.o.step p2 m2);have I:=O (t.o.ps.iV m2 D.o (by decide) (by decide));clear p2 m2;clear S I4;go_wp2_with fail;rcases i:run l en f c.job (y+1) (aF (xs ++ ext)) with _ | x
    ·have:=WL.o;rw [i] at this;cases this
    have F:=O i;clear i;have T:=O (show thn (some x) (fun a A J=>run l en f (.gQ c (d ++ [hd a])) A J)=some r by have:=WL.o;rw [F.o] at this;exact this);clear WL
    cases x with
    | bad kb =>
     obtain rfl:kX.bad kb=r:=ak6 T.o;have Tk:=O (H.o.low j.o.mv);refine (HC.o f (by omega) _ (y+1) (xs ++ ext) gB _ j.o.ps (by omega) (by omega) R.o F.o).mono ?_;rintro e w4⟨rfl,hb4⟩;unfold aW;go_wp2_with fail;exact⟨rfl,A8.bad rfl (Tk.o.trans hb4)⟩
    | ok kb A J =>
     have B:=O (dG F.o (by omega) R.o (by cases c <;> exact Ids.nil _) (by cases c <;> simp [El.job]));refine (HC.o f (by omega) _ (y+1) (xs ++ ext) gB _ j.o.ps (by omega) (by omega) R.o F.o).mono ?_;rintro e w4⟨rfl,zT,F9,Kj⟩;have iw:=O Kj;clear Kj;have V:=O (j.o.ps.iV iw.o.mv I.o (by decide) (by decide));have Q:=O (j.o.trans iw.o);have ake:=Q.o.mv.size
     have OD:=O (show ∀ x ∈ ext ++ zT,x.2.ownBlock=none∨x.2.ownBlock ≠ (Value.slice A5 q c5).ownBlock from fun x i=>by
      rcases List.mem_append.1 i with i | i
      ·exact Y.o x i
      ·exact Ll iw.o.fresh i (fun b hb=>(I.o.lt b hb).2))
     have g1:=B.o.lo;have g2:=B.o.few;have g3:=B.o.le;have g4:=Q.o.len;have g5:=B.o.len;simp only [dL] at g2 g5
     simp only [hr1] at g1
     have hqm:q+1≤100000:=by omega
     have U:=O g4;clear g4
     go_wp2_with (at_builtin
                  refine wpList_append_lies _ rfl (.tmp 12) (.tmp 16) 30 rfl w.heap.size 3 i0 _ 1 8 Tryz.underlying30 hi0 hz0 hz1 hz2 rfl (by decide) _ q (intCells d) rfl
                    (V.o.alloc _) ⟨w4.heap.size,0,none⟩ 1 1 [.int .i64 (hd kb)] rfl rfl (iD _ _ _) (by intro u hu;simp at hu;subst hu;rfl) (by omega) (by simp only [maxLen];omega) (by omega) (by simp;omega) (w4.heap.size+1) (by simp) ?_
                  intro gg cap w5 P N Z hgl)
     have mF:=O ((Q.o.alloc (.cells #[.int .i64 (hd kb)] 3)).grown H.o V.o (by decide) N OD.o);have HAT:=O Z;clear Z;have HGR:=O N;clear N
     refine⟨⟨f,A,ext ++ zT,F9,d ++ [hd kb],q+1,by omega,g3,by rw [U.o];omega,by omega,O (by rw [ak5,HQ.o];rfl),by omega,O (by rw [Q.o.ns];exact T.o),O (by rw [Q.o.ns];exact B.o.wf),O (by rw [U.o];exact (X.o.mono g5).app (Ids.cons B.o.hd (Ids.nil _))),
      O (by rw [Q.o.ns];exact mF.o),by rw [fU];exact P,O (fun x i=>?_)⟩,?_⟩
     ·show x.2.ownBlock=none∨x.2.ownBlock ≠ some gg
      rcases HAT.o with e | e
      ·rw [← e];exact OD.o x i
      ·rcases h9:x.2.ownBlock with _ | b
       ·exact .inl rfl
       ·right
        intro e2;injection e2 with e2
        have:=(World.ownsRow.lt (Q.o.ps.kids x (List.mem_append_right _ i)) b h9).2
        omega
     ·rw [HMS.o,mF.o.ps.vU];omega
end
section
variable {g:Nat} {tv:Value} {l:List Tok} {en:Int} {iv:Value} (hF:PF l)
include hF
theorem aaD (m:Nat)(C:∀ f,f≤m→∀ j,isFn j=true→IC g tv l en iv f j)(CL:∀ f,f≤m→∀ e,LC g tv l en iv f e):IC g tv l en iv (m+1) .put:=by
 intro w k xs nv r h hk hn hw W;have H:=O h;clear h;have J:=O (At.refl H.o);have u:=O hw;clear hw;have hn0:(aF xs).length≤k:=by rw [dL];exact hn
 have hlen:=hF.len;rw [run] at W
 unfold ru;go_enter Tryz.func234,Tryz.ntmps234
 have qV:=O W;clear W;rcases fO qV.o with ⟨d,F⟩ | ⟨d,rfl⟩
 rotate_left
 ·have um:=O d;clear d;go_wp2_with fail;refine (mo g tv l en iv hF _ k _ _ J.o.ps (by omega) um.o).mono ?_;rintro e w1⟨rfl,T⟩;unfold aW;go_wp2_with fail;exact⟨rfl,aZ.bad rfl ((H.o.low J.o.mv).trans (T.mono (ak1 J.o.ps.lt)))⟩
 have D:=O F;clear F qV;have hlt1:=h_ d (by simp);have um:=O d;clear d;go_wp2_with fail;refine (kE g tv l en iv hF _ k _ _ J.o.ps (by omega) um.o).mono ?_;rintro e w1⟨rfl,p1,m1⟩;have B:=O (J.o.step p1 m1);skip;clear p1 m1;unfold iW;have nP:=O (bf.new w1 80 #[.int .u8 (tg l k).kind,.string (aH (tx l k)),.int .i64 (pl l en k)]);have v:=O (B.o.alloc (.cells #[.int .u8 (tg l k).kind,.string (aH (tx l k)),.int .i64 (pl l en k)] 80));clear B;rcases dP D.o with ⟨i,G⟩ | ⟨i,rfl⟩
 rotate_left
 ·have t:=O i;clear i;go_wp2_with fail;refine (f_ g tv l en iv hF [58] (.inr (by decide +kernel)) _ (k+1) _ _ v.o.ps (by omega) t.o).mono ?_;rintro e w2⟨rfl,U⟩;unfold aW;go_wp2_with fail;exact⟨rfl,aZ.bad rfl ((H.o.low v.o.mv).trans (U.mono (ak1 v.o.ps.lt)))⟩
 have E:=O G;clear G D;have hlt2:=cB i (by simp);have t:=O i;clear i;go_wp2_with fail;refine (eP g tv l en iv hF [58] (.inr (by decide +kernel)) _ (k+1) _ _ v.o.ps (by omega) t.o).mono ?_;rintro e w2⟨rfl,p2,X⟩;have q:=O (v.o.ps.aY X nP.o);clear nP;have a:=O (v.o.step p2 X);clear v;clear p2 X;rcases dY E.o with ⟨Sd,k3,AB,n,I⟩ | ⟨kb3,n,rfl⟩
 rotate_left
 ·have M:=O n;clear n;have fA:=q.o.cell 0;have fH:=q.o.cell 1;have fI:=q.o.cell 2;have sl0:=q.o.lt;go_wp2_with fail;refine wp_region_held_drew (S:=fun x=>x.cell? ⟨w1.heap.size,0,none⟩=some (.int .u8 (tg l k).kind)∧x.cell? ⟨w1.heap.size,1,none⟩=some (.string (aH (tx l k)))∧x.cell? ⟨w1.heap.size,2,none⟩=some (.int .i64 (pl l en k))) (by kernel_rfl) ⟨fA,fH,fI⟩ (fun c=>?_);refine dB 0 rfl c ?_;simp only [Act.put,akR,akS,akT];refine dB 1 rfl c ?_;simp only [Act.put,akR,akS,akT];refine dB 2 rfl c ?_;simp only [Act.put,akR,akS,akT];refine dB 3 rfl c ?_;simp only [Act.put,akR,akS,akT];refine dB 4 rfl c ?_;simp only [Act.put,akR,akS,akT];refine wpAnyH_ready (rs:=[5]) (by kernel_rfl) (by simp) ?_;refine gN (.s (.s (.s (.s (.s .z))))) (fun K hK=>?_);go_simp;refine (C m (ak0 _) .expr rfl _ ((k+1)+1) _ _ _ a.o.ps.drew (by omega) (by rw [a.o.len];omega) (by rw [a.o.ns];exact u.o) (by rw [a.o.ns];exact M.o)).mono ?_;rintro e w3⟨rfl,V⟩;unfold aW;go_wp2_with fail;exact⟨rfl,aZ.bad rfl ((Below.drew (H.o.low a.o.mv)).trans V)⟩
 have M:=O n;clear n;have Q:=O I;clear I E;have L:=O (dG M.o (by omega) u.o (Ids.nil _) (by simp));have R:=L.o.lo;have gf3:=L.o.few;have ge3:=L.o.le;have gn3:=L.o.len;simp only [Job.reads] at R
 have fA:=q.o.cell 0;have fH:=q.o.cell 1;have fI:=q.o.cell 2;have sl0:=q.o.lt;go_wp2_with fail
 go_region_held3 (fun x=>x.cell? ⟨w1.heap.size,0,none⟩=some (.int .u8 (tg l k).kind)∧x.cell? ⟨w1.heap.size,1,none⟩=some (.string (aH (tx l k)))∧x.cell? ⟨w1.heap.size,2,none⟩=some (.int .i64 (pl l en k)))
  (first | go_keep|(go_split_ands;refine⟨?_,?_,?_⟩ <;> assumption))
  (first
   | (go_at_call 157;refine (C m (ak0 _) .expr rfl _ ((k+1)+1) _ _ _ a.o.ps.drew (by omega) (by rw [a.o.len];omega) (by rw [a.o.ns];exact u.o) (by rw [a.o.ns];exact M.o)).mono ?_;rintro e w3⟨rfl,ab0,Km,P⟩;have y:=O (a.o.drew.trans P);have A:=P.blk a.o.ps.drew q.o.drew (by decide) (by decide);have uH:=A.cell 0;have uI:=A.cell 1;have uJ:=A.cell 2;have YO:=A.lt;have Z:=O A;clear A;have hz3:=y.o.mv.size;clear P)
   | (go_at_call 151;refine (gI g tv l en iv AB.length 25 _ _ _ (tx l k) 0 _ [hd Sd] _ k3 _ _ (y.o.ps.alloc _) (rA w3 (hd Sd)) y.o.len (by omega)).mono ?_;rintro e w4⟨rfl,F9,p4,Y⟩;have N:=Y.blk (Z.o.alloc _) (y.o.ps.tag Z.o (by decide) (by decide)).1 (y.o.ps.tag Z.o (by decide) (by decide)).2;have uL:=N.cell 0;have uM:=N.cell 1;have uN:=N.cell 2;clear N;have iw:=O ((At.alloc y.o _).add p4 Y (by intro b hb;simp [Value.ownBlock] at hb;omega));clear p4 Y))
 all_goals
  obtain rfl:=dW Q.o;go_wp2_with fail;go_ret;exact aZ.ok rfl iw.o
end
section
variable {g:Nat} {tv:Value} {l:List Tok} {en:Int} {iv:Value} (hF:PF l)
include hF
theorem Qw (m:Nat)(C:∀ f,f≤m→∀ j,isFn j=true→IC g tv l en iv f j)(CL:∀ f,f≤m→∀ e,LC g tv l en iv f e):IC g tv l en iv (m+1) .param:=by
 intro w k xs nv r h hk hn hw W;have H:=O h;clear h;have J:=O (At.refl H.o);have u:=O hw;clear hw;have hn0:(aF xs).length≤k:=by rw [dL];exact hn
 have hlen:=hF.len;rw [run] at W
 unfold ru;go_enter Tryz.func153,Tryz.ntmps153
 have qV:=O W;clear W;rcases fO qV.o with ⟨d,F⟩ | ⟨d,rfl⟩
 rotate_left
 ·have um:=O d;clear d;go_wp2_with fail;refine (mo g tv l en iv hF _ k _ _ J.o.ps (by omega) um.o).mono ?_;rintro e w1⟨rfl,T⟩;unfold aW;go_wp2_with fail;exact⟨rfl,aZ.bad rfl ((H.o.low J.o.mv).trans (T.mono (ak1 J.o.ps.lt)))⟩
 have D:=O F;clear F qV;have hlt1:=h_ d (by simp);have um:=O d;clear d;go_wp2_with fail;refine (kE g tv l en iv hF _ k _ _ J.o.ps (by omega) um.o).mono ?_;rintro e w1⟨rfl,p1,m1⟩;have B:=O (J.o.step p1 m1);skip;clear p1 m1;unfold iW;have nP:=O (bf.new w1 80 #[.int .u8 (tg l k).kind,.string (aH (tx l k)),.int .i64 (pl l en k)]);have v:=O (B.o.alloc (.cells #[.int .u8 (tg l k).kind,.string (aH (tx l k)),.int .i64 (pl l en k)] 80));clear B;rcases dP D.o with ⟨i,G⟩ | ⟨i,rfl⟩
 rotate_left
 ·have t:=O i;clear i;go_wp2_with fail;refine (f_ g tv l en iv hF [58] (.inr (by decide +kernel)) _ (k+1) _ _ v.o.ps (by omega) t.o).mono ?_;rintro e w2⟨rfl,U⟩;unfold aW;go_wp2_with fail;exact⟨rfl,aZ.bad rfl ((H.o.low v.o.mv).trans (U.mono (ak1 v.o.ps.lt)))⟩
 have E:=O G;clear G D;have hlt2:=cB i (by simp);have t:=O i;clear i;go_wp2_with fail;refine (eP g tv l en iv hF [58] (.inr (by decide +kernel)) _ (k+1) _ _ v.o.ps (by omega) t.o).mono ?_;rintro e w2⟨rfl,p2,X⟩;have q:=O (v.o.ps.aY X nP.o);clear nP;have a:=O (v.o.step p2 X);clear v;clear p2 X;rcases dY E.o with ⟨Sd,k3,AB,n,I⟩ | ⟨kb3,n,rfl⟩
 rotate_left
 ·have M:=O n;clear n;have fA:=q.o.cell 0;have fH:=q.o.cell 1;have fI:=q.o.cell 2;have sl0:=q.o.lt;go_wp2_with fail;refine wp_region_held_drew (S:=fun x=>x.cell? ⟨w1.heap.size,0,none⟩=some (.int .u8 (tg l k).kind)∧x.cell? ⟨w1.heap.size,1,none⟩=some (.string (aH (tx l k)))∧x.cell? ⟨w1.heap.size,2,none⟩=some (.int .i64 (pl l en k))) (by kernel_rfl) ⟨fA,fH,fI⟩ (fun c=>?_);refine dB 0 rfl c ?_;simp only [Act.put,akR,akS,akT];refine dB 1 rfl c ?_;simp only [Act.put,akR,akS,akT];refine dB 2 rfl c ?_;simp only [Act.put,akR,akS,akT];refine dB 3 rfl c ?_;simp only [Act.put,akR,akS,akT];refine dB 4 rfl c ?_;simp only [Act.put,akR,akS,akT];refine wpAnyH_ready (rs:=[5]) (by kernel_rfl) (by simp) ?_;refine gN (.s (.s (.s (.s (.s .z))))) (fun K hK=>?_);go_simp;refine (C m (ak0 _) .typ rfl _ ((k+1)+1) _ _ _ a.o.ps.drew (by omega) (by rw [a.o.len];omega) (by rw [a.o.ns];exact u.o) (by rw [a.o.ns];exact M.o)).mono ?_;rintro e w3⟨rfl,V⟩;unfold aW;go_wp2_with fail;exact⟨rfl,aZ.bad rfl ((Below.drew (H.o.low a.o.mv)).trans V)⟩
 have M:=O n;clear n;have Q:=O I;clear I E;have L:=O (dG M.o (by omega) u.o (Ids.nil _) (by simp));have R:=L.o.lo;have gf3:=L.o.few;have ge3:=L.o.le;have gn3:=L.o.len;simp only [Job.reads] at R
 have fA:=q.o.cell 0;have fH:=q.o.cell 1;have fI:=q.o.cell 2;have sl0:=q.o.lt;go_wp2_with fail
 go_region_held3 (fun x=>x.cell? ⟨w1.heap.size,0,none⟩=some (.int .u8 (tg l k).kind)∧x.cell? ⟨w1.heap.size,1,none⟩=some (.string (aH (tx l k)))∧x.cell? ⟨w1.heap.size,2,none⟩=some (.int .i64 (pl l en k)))
  (first | go_keep|(go_split_ands;refine⟨?_,?_,?_⟩ <;> assumption))
  (first
   | (go_at_call 154;refine (C m (ak0 _) .typ rfl _ ((k+1)+1) _ _ _ a.o.ps.drew (by omega) (by rw [a.o.len];omega) (by rw [a.o.ns];exact u.o) (by rw [a.o.ns];exact M.o)).mono ?_;rintro e w3⟨rfl,ab0,Km,P⟩;have y:=O (a.o.drew.trans P);have A:=P.blk a.o.ps.drew q.o.drew (by decide) (by decide);have uH:=A.cell 0;have uI:=A.cell 1;have uJ:=A.cell 2;have YO:=A.lt;have Z:=O A;clear A;have hz3:=y.o.mv.size;clear P)
   | (go_at_call 151;refine (gI g tv l en iv AB.length 34 _ _ _ (tx l k) 0 _ [hd Sd] _ k3 _ _ (y.o.ps.alloc _) (rA w3 (hd Sd)) y.o.len (by omega)).mono ?_;rintro e w4⟨rfl,F9,p4,Y⟩;have N:=Y.blk (Z.o.alloc _) (y.o.ps.tag Z.o (by decide) (by decide)).1 (y.o.ps.tag Z.o (by decide) (by decide)).2;have uL:=N.cell 0;have uM:=N.cell 1;have uN:=N.cell 2;clear N;have iw:=O ((At.alloc y.o _).add p4 Y (by intro b hb;simp [Value.ownBlock] at hb;omega));clear p4 Y))
 all_goals
  obtain rfl:=dW Q.o;go_wp2_with fail;go_ret;exact aZ.ok rfl iw.o
end
section
variable {g:Nat} {tv:Value} {l:List Tok} {en:Int} {iv:Value} (hF:PF l)
include hF
theorem Sy (j J:Job)(x:Bs)(hJ:j=.lv .not∧J=.lv .cmp∧x=[110,111,116]∨j=.lv .unary∧J=.post∧x=[45])(hx:Mist.kind x=3∨Mist.kind x=4)(m:Nat)(C:IC g tv l en iv m j)(D:IC g tv l en iv m J):IC g tv l en iv (m+1) j:=by
 intro w k xs nv r h hk hn hw hr;have H:=O h;clear h;have tQ:=O (At.refl H.o);have q:=O hw;clear hw;have hn0:(aF xs).length≤k:=by rw [dL];exact hn
 have M:=hF.len;rcases hJ with ⟨rfl,rfl,rfl⟩ | ⟨rfl,rfl,rfl⟩
 all_goals
  rw [run] at hr
  simp only [ru,vT];have HC:=O C;clear C;have HD:=O D;clear D;go_in
  have qV:=O hr;clear hr;go_wp2_with fail;refine (iQ g tv l en iv _ k _ _ tQ.o.ps (by omega) M).mono ?_;rintro e w1⟨rfl,L⟩;have G:=O (tQ.o.below L);skip;clear L;have Q:=O (bf.new w1 80 #[.int .u8 (tg l k).kind,.string (aH (tx l k)),.int .i64 (pl l en k)]);have v:=O (G.o.alloc (.cells #[.int .u8 (tg l k).kind,.string (aH (tx l k)),.int .i64 (pl l en k)] 80));clear G;rcases fT qV.o with ⟨c,f⟩ | ⟨c,f⟩
  ·skip;have hlt2:=cB c (by simp);have u:=O c;clear c;have n:=O f;clear f;go_wp2_with fail;refine (jI g tv l en iv hF _ hx _ k _ _ v.o.ps (by omega) u.o).mono ?_;rintro e w3⟨rfl,p3,m3⟩;have t:=O (v.o.ps.aY m3 Q.o);clear Q;have d:=O (v.o.step p3 m3);clear v;clear p3 m3;rcases dY n.o with ⟨P,k4,Sk,i,N⟩ | ⟨kb4,i,rfl⟩
   rotate_left
   ·have U:=O i;clear i;have fA:=t.o.cell 0;have fH:=t.o.cell 1;have fI:=t.o.cell 2;have sl0:=t.o.lt;go_wp2_with fail;refine wp_region_held_drew (S:=fun A=>A.cell? ⟨w1.heap.size,0,none⟩=some (.int .u8 (tg l k).kind)∧A.cell? ⟨w1.heap.size,1,none⟩=some (.string (aH (tx l k)))∧A.cell? ⟨w1.heap.size,2,none⟩=some (.int .i64 (pl l en k))) (by kernel_rfl) ⟨fA,fH,fI⟩ (fun a=>?_);refine dB 0 rfl a ?_;simp only [Act.put,akR,akS,akT];refine dB 1 rfl a ?_;simp only [Act.put,akR,akS,akT];refine dB 2 rfl a ?_;simp only [Act.put,akR,akS,akT];refine wpAnyH_ready (rs:=[3]) (by kernel_rfl) (by simp) ?_;refine gN (.s (.s (.s .z))) (fun K hK=>?_);go_simp;refine (HC.o _ (k+1) _ _ _ d.o.ps.drew (by omega) (by rw [d.o.len];omega) (by rw [d.o.ns];exact q.o) (by rw [d.o.ns];exact U.o)).mono ?_;rintro e w4⟨rfl,hb4⟩;unfold aW;go_wp2_with fail;exact⟨rfl,aZ.bad rfl ((Below.drew (H.o.low d.o.mv)).trans hb4)⟩
   have U:=O i;clear i;have W:=O N;clear N n;have R:=O (dG U.o (by omega) q.o (Ids.nil _) (by simp));have Z:=R.o.lo;have gf4:=R.o.few;have ge4:=R.o.le;have gn4:=R.o.len;simp only [Job.reads] at Z
   have fA:=t.o.cell 0;have fH:=t.o.cell 1;have fI:=t.o.cell 2;have sl0:=t.o.lt;go_wp2_with fail
   go_region_held3 (fun A=>A.cell? ⟨w1.heap.size,0,none⟩=some (.int .u8 (tg l k).kind)∧A.cell? ⟨w1.heap.size,1,none⟩=some (.string (aH (tx l k)))∧A.cell? ⟨w1.heap.size,2,none⟩=some (.int .i64 (pl l en k)))
    (first | go_keep|(go_split_ands;refine⟨?_,?_,?_⟩ <;> assumption))
    (first
     | (go_at_call 151;refine (gI g tv l en iv Sk.length _ _ _ _ [] 0 _ [hd P] _ k4 _ _ (E.o.ps.alloc _) (rA w4 (hd P)) E.o.len (by omega)).mono ?_;rintro e w5⟨rfl,Sn,p5,m5⟩;have T:=m5.blk (Y.o.alloc _) (E.o.ps.tag Y.o (by decide) (by decide)).1 (E.o.ps.tag Y.o (by decide) (by decide)).2;have uL:=T.cell 0;have uM:=T.cell 1;have uN:=T.cell 2;clear T;have mF:=O ((At.alloc E.o _).add p5 m5 (by intro b hb;simp [Value.ownBlock] at hb;omega));clear p5 m5)
     | (refine (HC.o _ (k+1) _ _ _ d.o.ps.drew (by omega) (by rw [d.o.len];omega) (by rw [d.o.ns];exact q.o) (by rw [d.o.ns];exact U.o)).mono ?_;rintro e w4⟨rfl,zT,F9,X⟩;have E:=O (d.o.drew.trans X);have B:=X.blk d.o.ps.drew t.o.drew (by decide) (by decide);have uH:=B.cell 0;have uI:=B.cell 1;have uJ:=B.cell 2;have YO:=B.lt;have Y:=O B;clear B;have hz4:=E.o.mv.size;clear X))
   all_goals
    obtain rfl:=dW W.o;go_wp2_with fail;go_ret;exact aZ.ok rfl mF.o
  ·skip;have u:=O c;clear c;have n:=O f;clear f;go_wp2_with fail;refine (kY g tv l en iv hF _ hx _ k _ _ v.o.ps (by omega) u.o).mono ?_;rintro e w6⟨rfl,y⟩;have nG:=O (Q.o.below y Q.o.lt);clear Q;have F:=O (v.o.below y);clear v;clear y;have HX:=O n.o;go_wp2_with fail;have HQ:=O (HD.o _ k _ _ r F.o.ps (by omega) (by rw [F.o.len];omega) (by rw [F.o.ns];exact q.o) (by rw [F.o.ns];exact HX.o))
   cases r with
   | bad kb =>
    refine HQ.o.mono ?_;rintro e wq⟨rfl,hbq⟩;unfold aW;go_wp2_with fail;exact⟨rfl,aZ.bad rfl ((H.o.low F.o.mv).trans hbq)⟩
   | ok ksq kq nsq =>
    refine HQ.o.mono ?_;rintro e wq⟨rfl,agf,nvq,I⟩;have V:=O (F.o.trans I);clear I;go_wp2_with fail;go_ret;exact aZ.ok rfl V.o
end
section
variable {g:Nat} {tv:Value} {l:List Tok} {en:Int} {iv:Value} (hF:PF l)
include hF
theorem Ve (m:Nat)(C:∀ f,f≤m→∀ j,isFn j=true→IC g tv l en iv f j)(CL:∀ f,f≤m→∀ e,LC g tv l en iv f e):IC g tv l en iv (m+1) .expr:=by
 intro w k xs nv r h hk hn hw hr;have H:=O h;clear h;have tQ:=O (At.refl H.o);have d:=O hw;clear hw;have hn0:(aF xs).length≤k:=by rw [dL];exact hn
 have hlen:=hF.len;rw [run] at hr
 unfold ru;go_enter Tryz.func157,Tryz.ntmps157
 have qV:=O hr;clear hr;go_wp2_with fail;refine (iQ g tv l en iv _ k _ _ tQ.o.ps (by omega) hlen).mono ?_;rintro e w1⟨rfl,hb1⟩;have HA1:=O (tQ.o.below hb1);skip;clear hb1;have nP:=O (bf.new w1 80 #[.int .u8 (tg l k).kind,.string (aH (tx l k)),.int .i64 (pl l en k)]);have W:=O (HA1.o.alloc (.cells #[.int .u8 (tg l k).kind,.string (aH (tx l k)),.int .i64 (pl l en k)] 80));clear HA1;rcases fT qV.o with ⟨i,v⟩ | ⟨i,v⟩
 ·skip;have hlt2:=cB i (by simp);have R:=O i;clear i;have B:=O v;clear v;go_wp2_with fail;refine (jI g tv l en iv hF [105,102] (.inl (by decide +kernel)) _ k _ _ W.o.ps (by omega) R.o).mono ?_;rintro e w3⟨rfl,p3,m3⟩;have jr:=O (W.o.ps.aY m3 nP.o);clear nP;have q:=O (W.o.step p3 m3);clear W;clear p3 m3;rcases dY B.o with ⟨ks4,k4,Sk,x,hr4⟩ | ⟨kb4,x,rfl⟩
  rotate_left
  ·have Ry:=O x;clear x;go_wp2_with fail;refine (C m (ak0 _) .expr rfl _ (k+1) _ _ _ q.o.ps (by omega) (by rw [q.o.len];omega) (by rw [q.o.ns];exact d.o) (by rw [q.o.ns];exact Ry.o)).mono ?_;rintro e w4⟨rfl,hb4⟩;unfold aW;go_wp2_with fail;exact⟨rfl,aZ.bad rfl ((H.o.low q.o.mv).trans hb4)⟩
  have Ry:=O x;clear x;have HR4:=O hr4;clear hr4 B;go_wp2_with fail;refine (C m (ak0 _) .expr rfl _ (k+1) _ _ _ q.o.ps (by omega) (by rw [q.o.len];omega) (by rw [q.o.ns];exact d.o) (by rw [q.o.ns];exact Ry.o)).mono ?_;rintro e w4⟨rfl,zT,F9,Kj⟩;have NW:=O (dG Ry.o (by omega) d.o (Ids.nil _) (by simp));have gl4:=NW.o.lo;have gf4:=NW.o.few;have ge4:=NW.o.le;have gn4:=NW.o.len;simp only [Job.reads] at gl4
  have gL:=O (Kj.blk q.o.ps jr.o (by decide) (by decide));clear jr;have U:=O NW.o.wf;have Y:=O (q.o.trans Kj);clear q;clear Kj;rcases dP HR4.o with ⟨vS,Jq⟩ | ⟨vS,rfl⟩
  rotate_left
  ·have KF:=O vS;clear vS;go_wp2_with fail;refine (f_ g tv l en iv hF [116,104,101,110] (.inl (by decide +kernel)) _ k4 _ _ Y.o.ps (by omega) KF.o).mono ?_;rintro e w5⟨rfl,hb5⟩;unfold aW;go_wp2_with fail;exact⟨rfl,aZ.bad rfl ((H.o.low Y.o.mv).trans (hb5.mono (ak1 Y.o.ps.lt)))⟩
  have wY:=O Jq;clear Jq HR4;have aeZ:=cB vS (by simp);have KF:=O vS;clear vS;go_wp2_with fail;refine (eP g tv l en iv hF [116,104,101,110] (.inl (by decide +kernel)) _ k4 _ _ Y.o.ps (by omega) KF.o).mono ?_;rintro e w5⟨rfl,p5,m5⟩;have nO:=O (Y.o.ps.aY m5 gL.o);clear gL;have t:=O (Y.o.step p5 m5);clear Y;clear p5 m5;rcases dY wY.o with ⟨ks6,k6,ns6,y,R6⟩ | ⟨kb6,y,rfl⟩
  rotate_left
  ·have D:=O y;clear y;go_wp2_with fail;refine (C m (ak0 _) .expr rfl _ (k4+1) _ _ _ t.o.ps (by omega) (by rw [t.o.len];omega) (by rw [t.o.ns];exact U.o) (by rw [t.o.ns];exact D.o)).mono ?_;rintro e w6⟨rfl,hb6⟩;unfold aW;go_wp2_with fail;exact⟨rfl,aZ.bad rfl ((H.o.low t.o.mv).trans hb6)⟩
  have D:=O y;clear y;have zA:=O R6;clear R6 wY;go_wp2_with fail;refine (C m (ak0 _) .expr rfl _ (k4+1) _ _ _ t.o.ps (by omega) (by rw [t.o.len];omega) (by rw [t.o.ns];exact U.o) (by rw [t.o.ns];exact D.o)).mono ?_;rintro e w6⟨rfl,ahI,nv6,X⟩;have Xd:=O (dG D.o (by omega) U.o (Ids.nil _) (by simp));have gl6:=Xd.o.lo;have gf6:=Xd.o.few;have ge6:=Xd.o.le;have gn6:=Xd.o.len;simp only [Job.reads] at gl6
  have nG:=O (X.blk t.o.ps nO.o (by decide) (by decide));clear nO;have T:=O Xd.o.wf;have pR:=O (t.o.trans X);clear t;clear X;rcases dP zA.o with ⟨Al,Zj⟩ | ⟨Al,rfl⟩
  rotate_left
  ·have N_:=O Al;clear Al;go_wp2_with fail;refine (f_ g tv l en iv hF [101,108,115,101] (.inl (by decide +kernel)) _ k6 _ _ pR.o.ps (by omega) N_.o).mono ?_;rintro e w7⟨rfl,pF⟩;unfold aW;go_wp2_with fail;exact⟨rfl,aZ.bad rfl ((H.o.low pR.o.mv).trans (pF.mono (ak1 pR.o.ps.lt)))⟩
  have OJ:=O Zj;clear Zj zA;have ae0:=cB Al (by simp);have N_:=O Al;clear Al;go_wp2_with fail;refine (eP g tv l en iv hF [101,108,115,101] (.inl (by decide +kernel)) _ k6 _ _ pR.o.ps (by omega) N_.o).mono ?_;rintro e w7⟨rfl,p7,m7⟩;have E:=O (pR.o.ps.aY m7 nG.o);clear nG;have A:=O (pR.o.step p7 m7);clear pR;clear p7 m7;rcases dY OJ.o with ⟨Ed,k8,ns8,Bo,LV⟩ | ⟨kb8,Bo,rfl⟩
  rotate_left
  ·have I9:=O Bo;clear Bo;have fA:=E.o.cell 0;have fH:=E.o.cell 1;have fI:=E.o.cell 2;have sl0:=E.o.lt;go_wp2_with fail;refine wp_region_held_drew (S:=fun c=>c.cell? ⟨w1.heap.size,0,none⟩=some (.int .u8 (tg l k).kind)∧c.cell? ⟨w1.heap.size,1,none⟩=some (.string (aH (tx l k)))∧c.cell? ⟨w1.heap.size,2,none⟩=some (.int .i64 (pl l en k))) (by kernel_rfl) ⟨fA,fH,fI⟩ (fun a=>?_);refine dB 0 rfl a ?_;simp only [Act.put,akR,akS,akT];refine dB 1 rfl a ?_;simp only [Act.put,akR,akS,akT];refine dB 2 rfl a ?_;simp only [Act.put,akR,akS,akT];refine dB 3 rfl a ?_;simp only [Act.put,akR,akS,akT];refine dB 4 rfl a ?_;simp only [Act.put,akR,akS,akT];refine wpAnyH_ready (rs:=[5]) (by kernel_rfl) (by simp) ?_;refine gN (.s (.s (.s (.s (.s .z))))) (fun K hK=>?_);go_simp;refine (C m (ak0 _) .expr rfl _ (k6+1) _ _ _ A.o.ps.drew (by omega) (by rw [A.o.len];omega) (by rw [A.o.ns];exact T.o) (by rw [A.o.ns];exact I9.o)).mono ?_;rintro e w8⟨rfl,Bh⟩;unfold aW;go_wp2_with fail;exact⟨rfl,aZ.bad rfl ((Below.drew (H.o.low A.o.mv)).trans Bh)⟩
  have I9:=O Bo;clear Bo;have FR:=O LV;clear LV OJ;have FN:=O (dG I9.o (by omega) T.o (Ids.nil _) (by simp));have gl8:=FN.o.lo;have gf8:=FN.o.few;have ge8:=FN.o.le;have gn8:=FN.o.len;simp only [Job.reads] at gl8
  have fA:=E.o.cell 0;have fH:=E.o.cell 1;have fI:=E.o.cell 2;have sl0:=E.o.lt;go_wp2_with fail
  go_region_held3 (fun c=>c.cell? ⟨w1.heap.size,0,none⟩=some (.int .u8 (tg l k).kind)∧c.cell? ⟨w1.heap.size,1,none⟩=some (.string (aH (tx l k)))∧c.cell? ⟨w1.heap.size,2,none⟩=some (.int .i64 (pl l en k)))
   (first | go_keep|(go_split_ands;refine⟨?_,?_,?_⟩ <;> assumption))
   (first
    | (go_at_call 157;refine (C m (ak0 _) .expr rfl _ (k6+1) _ _ _ A.o.ps.drew (by omega) (by rw [A.o.len];omega) (by rw [A.o.ns];exact T.o) (by rw [A.o.ns];exact I9.o)).mono ?_;rintro e w8⟨rfl,aeG,U7,GZ⟩;have wD:=O (A.o.drew.trans GZ);have GK:=GZ.blk A.o.ps.drew E.o.drew (by decide) (by decide);have uH:=GK.cell 0;have uI:=GK.cell 1;have uJ:=GK.cell 2;have YO:=GK.lt;have Yo:=O GK;clear GK;have hz8:=wD.o.mv.size;clear GZ)
    | (go_at_call 151;refine (gI g tv l en iv ns8.length 19 _ _ _ [] 0 _ [hd ks4,hd ks6,hd Ed] _ k8 _ _ (wD.o.ps.alloc _) (UR w8 (hd ks4) (hd ks6) (hd Ed)) wD.o.len (by omega)).mono ?_;rintro e w9⟨rfl,nv9,p9,m9⟩;have RQ:=m9.blk (Yo.o.alloc _) (wD.o.ps.tag Yo.o (by decide) (by decide)).1 (wD.o.ps.tag Yo.o (by decide) (by decide)).2;have uL:=RQ.cell 0;have uM:=RQ.cell 1;have uN:=RQ.cell 2;clear RQ;have sK:=O ((At.alloc wD.o _).add p9 m9 (by intro b hb;simp [Value.ownBlock] at hb;omega));clear p9 m9))
  all_goals
   obtain rfl:=dW FR.o;go_wp2_with fail;go_ret;exact aZ.ok rfl sK.o
 ·skip;have R:=O i;clear i;have B:=O v;clear v;go_wp2_with fail;refine (kY g tv l en iv hF [105,102] (.inl (by decide +kernel)) _ k _ _ W.o.ps (by omega) R.o).mono ?_;rintro e Og⟨rfl,Un⟩;have nS:=O (nP.o.below Un nP.o.lt);clear nP;have sM:=O (W.o.below Un);clear W;clear Un;rcases fT B.o with ⟨Ab,LH⟩ | ⟨Ab,LH⟩
  ·skip;have agr:=cB Ab (by simp);have Ow:=O Ab;clear Ab;have Tt:=O LH;clear LH;go_wp2_with fail;refine (jI g tv l en iv hF [108,101,116] (.inl (by decide +kernel)) _ k _ _ sM.o.ps (by omega) Ow.o).mono ?_;rintro e tC⟨rfl,p12,m12⟩;have nD:=O (sM.o.ps.aY m12 nS.o);clear nS;have Z:=O (sM.o.step p12 m12);clear sM;clear p12 m12;rcases fO Tt.o with ⟨oo,uQ⟩ | ⟨oo,rfl⟩
   rotate_left
   ·have wE:=O oo;clear oo;go_wp2_with fail;refine (mo g tv l en iv hF _ (k+1) _ _ Z.o.ps (by omega) wE.o).mono ?_;rintro e M⟨rfl,PG⟩;unfold aW;go_wp2_with fail;exact⟨rfl,aZ.bad rfl ((H.o.low Z.o.mv).trans (PG.mono (ak1 Z.o.ps.lt)))⟩
   have wG:=O uQ;clear uQ Tt;have Y_:=h_ oo (by simp);have wE:=O oo;clear oo;go_wp2_with fail;refine (kE g tv l en iv hF _ (k+1) _ _ Z.o.ps (by omega) wE.o).mono ?_;rintro e M⟨rfl,p13,m13⟩;have sN:=O (Z.o.ps.aY m13 nD.o);clear nD;have oO:=O (Z.o.step p13 m13);clear Z;clear p13 m13;unfold iW;have Ko:=O (sN.o.alloc (.cells #[.int .u8 (tg l (k+1)).kind,.string (aH (tx l (k+1))),.int .i64 (pl l en (k+1))] 80));clear sN;have afJ:=O (bf.new M 80 #[.int .u8 (tg l (k+1)).kind,.string (aH (tx l (k+1))),.int .i64 (pl l en (k+1))]);have Q:=O (oO.o.alloc (.cells #[.int .u8 (tg l (k+1)).kind,.string (aH (tx l (k+1))),.int .i64 (pl l en (k+1))] 80));clear oO;rcases dP wG.o with ⟨rZ,DU⟩ | ⟨rZ,rfl⟩
   rotate_left
   ·have Df:=O rZ;clear rZ;go_wp2_with fail;refine (f_ g tv l en iv hF [61] (.inr (by decide +kernel)) _ ((k+1)+1) _ _ Q.o.ps (by omega) Df.o).mono ?_;rintro e Rm⟨rfl,PN⟩;unfold aW;go_wp2_with fail;exact⟨rfl,aZ.bad rfl ((H.o.low Q.o.mv).trans (PN.mono (ak1 Q.o.ps.lt)))⟩
   have FZ:=O DU;clear DU wG;have adM:=cB rZ (by simp);have Df:=O rZ;clear rZ;go_wp2_with fail;refine (eP g tv l en iv hF [61] (.inr (by decide +kernel)) _ ((k+1)+1) _ _ Q.o.ps (by omega) Df.o).mono ?_;rintro e Rm⟨rfl,p14,G⟩;have nE:=O (Q.o.ps.aY G Ko.o);have C8:=O (Q.o.ps.aY G afJ.o);clear Ko afJ;have n:=O (Q.o.step p14 G);clear Q;clear p14 G;rcases dY FZ.o with ⟨ae',F,aiR,DW,DV⟩ | ⟨aiA,DW,rfl⟩
   rotate_left
   ·have I7:=O DW;clear DW;go_wp2_with fail;refine (C m (ak0 _) .expr rfl _ (((k+1)+1)+1) _ _ _ n.o.ps (by omega) (by rw [n.o.len];omega) (by rw [n.o.ns];exact d.o) (by rw [n.o.ns];exact I7.o)).mono ?_;rintro e Gm⟨rfl,PO⟩;unfold aW;go_wp2_with fail;exact⟨rfl,aZ.bad rfl ((H.o.low n.o.mv).trans PO)⟩
   have I7:=O DW;clear DW;have IY:=O DV;clear DV FZ;go_wp2_with fail;refine (C m (ak0 _) .expr rfl _ (((k+1)+1)+1) _ _ _ n.o.ps (by omega) (by rw [n.o.len];omega) (by rw [n.o.ns];exact d.o) (by rw [n.o.ns];exact I7.o)).mono ?_;rintro e Gm⟨rfl,af',aah,Lp⟩;have CJ:=O (dG I7.o (by omega) d.o (Ids.nil _) (by simp));have aeL:=CJ.o.lo;have ahM:=CJ.o.few;have ahK:=CJ.o.le;have ah2:=CJ.o.len;simp only [Job.reads] at aeL
   have mW:=O (Lp.blk n.o.ps nE.o (by decide) (by decide));have Oo:=O (Lp.blk n.o.ps C8.o (by decide) (by decide));clear nE C8;have Rx:=O CJ.o.wf;have P:=O (n.o.trans Lp);clear n;clear Lp;rcases dP IY.o with ⟨r9,LM⟩ | ⟨r9,rfl⟩
   rotate_left
   ·have Dg:=O r9;clear r9;go_wp2_with fail;refine (f_ g tv l en iv hF [105,110] (.inl (by decide +kernel)) _ F _ _ P.o.ps (by omega) Dg.o).mono ?_;rintro e w16⟨rfl,Y3⟩;unfold aW;go_wp2_with fail;exact⟨rfl,aZ.bad rfl ((H.o.low P.o.mv).trans (Y3.mono (ak1 P.o.ps.lt)))⟩
   have OH:=O LM;clear LM IY;have adN:=cB r9 (by simp);have Dg:=O r9;clear r9;go_wp2_with fail;refine (eP g tv l en iv hF [105,110] (.inl (by decide +kernel)) _ F _ _ P.o.ps (by omega) Dg.o).mono ?_;rintro e w16⟨rfl,p16,I⟩;have L:=O (P.o.ps.aY I mW.o);have uh:=O (P.o.ps.aY I Oo.o);clear mW Oo;have u:=O (P.o.step p16 I);clear P;clear p16 I;rcases dY OH.o with ⟨Me,k17,afb,DX,Zg⟩ | ⟨aiB,DX,rfl⟩
   rotate_left
   ·have I8:=O DX;clear DX;have fA:=L.o.cell 0;have fH:=L.o.cell 1;have fI:=L.o.cell 2;have sl0:=L.o.lt;have pV:=uh.o.cell 1;have sl1:=uh.o.lt;go_wp2_with fail;refine wp_region_held_drew (S:=fun c=>c.cell? ⟨w1.heap.size,0,none⟩=some (.int .u8 (tg l k).kind)∧c.cell? ⟨w1.heap.size,1,none⟩=some (.string (aH (tx l k)))∧c.cell? ⟨w1.heap.size,2,none⟩=some (.int .i64 (pl l en k))∧c.cell? ⟨M.heap.size,1,none⟩=some (.string (aH (tx l (k+1))))) (by kernel_rfl) ⟨fA,fH,fI,pV⟩ (fun a=>?_);refine dB 0 rfl a ?_;simp only [Act.put,akR,akS,akT];refine dB 1 rfl a ?_;simp only [Act.put,akR,akS,akT];refine dB 2 rfl a ?_;simp only [Act.put,akR,akS,akT];refine dB 3 rfl a ?_;simp only [Act.put,akR,akS,akT];refine dB 4 rfl a ?_;simp only [Act.put,akR,akS,akT];refine dB 5 rfl a ?_;simp only [Act.put,akR,akS,akT];refine wpAnyH_ready (rs:=[6]) (by kernel_rfl) (by simp) ?_;refine gN (.s (.s (.s (.s (.s (.s .z)))))) (fun K hK=>?_);go_simp;refine (C m (ak0 _) .expr rfl _ (F+1) _ _ _ u.o.ps.drew (by omega) (by rw [u.o.len];omega) (by rw [u.o.ns];exact Rx.o) (by rw [u.o.ns];exact I8.o)).mono ?_;rintro e w17⟨rfl,wK⟩;unfold aW;go_wp2_with fail;exact⟨rfl,aZ.bad rfl ((Below.drew (H.o.low u.o.mv)).trans wK)⟩
   have I8:=O DX;clear DX;have aeo:=O Zg;clear Zg OH;have FV:=O (dG I8.o (by omega) Rx.o (Ids.nil _) (by simp));have aeM:=FV.o.lo;have ahN:=FV.o.few;have ahL:=FV.o.le;have ah3:=FV.o.len;simp only [Job.reads] at aeM
   have fA:=L.o.cell 0;have fH:=L.o.cell 1;have fI:=L.o.cell 2;have sl0:=L.o.lt;have pV:=uh.o.cell 1;have sl1:=uh.o.lt;go_wp2_with fail
   go_region_held3 (fun c=>c.cell? ⟨w1.heap.size,0,none⟩=some (.int .u8 (tg l k).kind)∧c.cell? ⟨w1.heap.size,1,none⟩=some (.string (aH (tx l k)))∧c.cell? ⟨w1.heap.size,2,none⟩=some (.int .i64 (pl l en k))∧c.cell? ⟨M.heap.size,1,none⟩=some (.string (aH (tx l (k+1)))))
    (first | go_keep|(go_split_ands;refine⟨?_,?_,?_,?_⟩ <;> assumption))
    (first
     | (go_at_call 157;refine (C m (ak0 _) .expr rfl _ (F+1) _ _ _ u.o.ps.drew (by omega) (by rw [u.o.len];omega) (by rw [u.o.ns];exact Rx.o) (by rw [u.o.ns];exact I8.o)).mono ?_;rintro e w17⟨rfl,aga,aiW,DR⟩;have N:=O (u.o.drew.trans DR);have zP:=DR.blk u.o.ps.drew L.o.drew (by decide) (by decide);have uH:=zP.cell 0;have uI:=zP.cell 1;have uJ:=zP.cell 2;have YO:=zP.lt;have OW:=O zP;clear zP;have Jd:=DR.blk u.o.ps.drew uh.o.drew (by decide) (by decide);have YM:=Jd.cell 1;have dl1:=Jd.lt;have OX:=O Jd;clear Jd;have akg:=N.o.mv.size;clear DR)
     | (go_at_call 151;refine (gI g tv l en iv afb.length 20 _ _ _ (tx l (k+1)) 0 _ [hd ae',hd Me] _ k17 _ _ (N.o.ps.alloc _) (Cu w17 (hd ae') (hd Me)) N.o.len (by omega)).mono ?_;rintro e w18⟨rfl,agS,p18,J⟩;have Je:=J.blk (OW.o.alloc _) (N.o.ps.tag OW.o (by decide) (by decide)).1 (N.o.ps.tag OW.o (by decide) (by decide)).2;have uL:=Je.cell 0;have uM:=Je.cell 1;have uN:=Je.cell 2;clear Je;have YI:=J.blk (OX.o.alloc _) (N.o.ps.tag OX.o (by decide) (by decide)).1 (N.o.ps.tag OX.o (by decide) (by decide)).2;have YP:=YI.cell 1;clear YI;have BQ:=O ((At.alloc N.o _).add p18 J (by intro b hb;simp [Value.ownBlock] at hb;omega));clear p18 J))
   all_goals
    obtain rfl:=dW aeo.o;go_wp2_with fail;go_ret;exact aZ.ok rfl BQ.o
  ·skip;have Ow:=O Ab;clear Ab;have Tt:=O LH;clear LH;go_wp2_with fail;refine (kY g tv l en iv hF [108,101,116] (.inl (by decide +kernel)) _ k _ _ sM.o.ps (by omega) Ow.o).mono ?_;rintro e w19⟨rfl,V⟩;have Oq:=O (nS.o.below V nS.o.lt);clear nS;have qN:=O (sM.o.below V);clear sM;clear V;have HX:=O Tt.o;go_wp2_with fail;have HQ:=O (C m (ak0 _) (.lv .or) rfl _ k _ _ r qN.o.ps (by omega) (by rw [qN.o.len];omega) (by rw [qN.o.ns];exact d.o) (by rw [qN.o.ns];exact HX.o))
   cases r with
   | bad kb =>
    refine HQ.o.mono ?_;rintro e wq⟨rfl,hbq⟩;unfold aW;go_wp2_with fail;exact⟨rfl,aZ.bad rfl ((H.o.low qN.o.mv).trans hbq)⟩
   | ok ksq kq nsq =>
    refine HQ.o.mono ?_;rintro e wq⟨rfl,agf,nvq,haq⟩;have HAQ:=O (qN.o.trans haq);clear haq;go_wp2_with fail;go_ret;exact aZ.ok rfl HAQ.o
end
