/-
  A part of the proof.
-/
import Derived.Test.YthepmkjggfijoaaGreatDoorSA
import Derived.Test.YthepmkjggfijoaaGreatDoorS08
set_option linter.all false
set_option maxRecDepth 100000
set_option maxHeartbeats 4000000
namespace Go.Proofs.YthepmkjggfijoaaGreatDoor
open Go.RowKit Mist
attribute [local go_sem] aj aH aS aB ak
section
variable {g:Nat} {tv:Value} {l:List Tok} {en:Int} {iv:Value} (hF:PF l)
include hF
theorem Wi (m:Nat)(C:∀ f,f≤m→∀ j,isFn j=true→IC g tv l en iv f j)(CL:∀ f,f≤m→∀ e,LC g tv l en iv f e):IC g tv l en iv (m+1) .expr:=by
 intro w k xs nv r h hk hn hw hr;have H:=O h;clear h;have uD:=O (At.refl H.o);have d:=O hw;clear hw;have hn0:(aA xs).length≤k:=by rw [aD];exact hn
 have hlen:=hF.len;rw [run] at hr
 unfold t_;go_enter Tryz.func210,Tryz.ntmps210
 have qm:=O hr;clear hr;go_wp2_with fail;refine (h_ g tv l en iv _ k _ _ uD.o.ps (by omega) hlen).mono ?_;rintro e w1⟨rfl,hb1⟩;have HA1:=O (uD.o.below hb1);skip;clear hb1;have og:=O (aC.new w1 68 #[.int .u8 (tg l k).kind,.string (aM (tx l k)),.int .i64 (pl l en k)]);have Y:=O (HA1.o.alloc (.cells #[.int .u8 (tg l k).kind,.string (aM (tx l k)),.int .i64 (pl l en k)] 68));clear HA1;rcases gG qm.o with ⟨i,A⟩ | ⟨i,A⟩
 ·skip;have hlt2:=aP i (by simp);have X:=O i;clear i;have F:=O A;clear A;go_wp2_with fail;refine (jg g tv l en iv hF [105,102] (.inl (by decide +kernel)) _ k _ _ Y.o.ps (by omega) X.o).mono ?_;rintro e w3⟨rfl,p3,m3⟩;have iG:=O (Y.o.ps.aU m3 og.o);clear og;have q:=O (Y.o.step p3 m3);clear Y;clear p3 m3;rcases dW F.o with ⟨ks4,k4,MG,B,hr4⟩ | ⟨kb4,B,rfl⟩
  rotate_left
  ·have Js:=O B;clear B;go_wp2_with fail;refine (C m (aaJ _) .expr rfl _ (k+1) _ _ _ q.o.ps (by omega) (by rw [q.o.len];omega) (by rw [q.o.ns];exact d.o) (by rw [q.o.ns];exact Js.o)).mono ?_;rintro e w4⟨rfl,hb4⟩;unfold aI;go_wp2_with fail;exact⟨rfl,aR.bad rfl ((H.o.low q.o.mv).trans hb4)⟩
  have Js:=O B;clear B;have HR4:=O hr4;clear hr4 F;go_wp2_with fail;refine (C m (aaJ _) .expr rfl _ (k+1) _ _ _ q.o.ps (by omega) (by rw [q.o.len];omega) (by rw [q.o.ns];exact d.o) (by rw [q.o.ns];exact Js.o)).mono ?_;rintro e w4⟨rfl,j5,yH,vM⟩;have Jm:=O (aW Js.o (by omega) d.o (Ids.nil _) (by simp));have gl4:=Jm.o.lo;have gf4:=Jm.o.few;have ge4:=Jm.o.le;have gn4:=Jm.o.len;simp only [Job.reads] at gl4
  have iw:=O (vM.blk q.o.ps iG.o (by decide) (by decide));clear iG;have v:=O Jm.o.wf;have Z:=O (q.o.trans vM);clear q;clear vM;rcases dO HR4.o with ⟨zw,Mj⟩ | ⟨zw,rfl⟩
  rotate_left
  ·have Ns:=O zw;clear zw;go_wp2_with fail;refine (gQ g tv l en iv hF [116,104,101,110] (.inl (by decide +kernel)) _ k4 _ _ Z.o.ps (by omega) Ns.o).mono ?_;rintro e w5⟨rfl,hb5⟩;unfold aI;go_wp2_with fail;exact⟨rfl,aR.bad rfl ((H.o.low Z.o.mv).trans (hb5.mono (aaK Z.o.ps.lt)))⟩
  have AU:=O Mj;clear Mj HR4;have hlt5:=aP zw (by simp);have Ns:=O zw;clear zw;go_wp2_with fail;refine (eZ g tv l en iv hF [116,104,101,110] (.inl (by decide +kernel)) _ k4 _ _ Z.o.ps (by omega) Ns.o).mono ?_;rintro e w5⟨rfl,p5,m5⟩;have oW:=O (Z.o.ps.aU m5 iw.o);clear iw;have t:=O (Z.o.step p5 m5);clear Z;clear p5 m5;rcases dW AU.o with ⟨ks6,k6,ns6,D,Ul⟩ | ⟨kb6,D,rfl⟩
  rotate_left
  ·have G:=O D;clear D;go_wp2_with fail;refine (C m (aaJ _) .expr rfl _ (k4+1) _ _ _ t.o.ps (by omega) (by rw [t.o.len];omega) (by rw [t.o.ns];exact v.o) (by rw [t.o.ns];exact G.o)).mono ?_;rintro e w6⟨rfl,hb6⟩;unfold aI;go_wp2_with fail;exact⟨rfl,aR.bad rfl ((H.o.low t.o.mv).trans hb6)⟩
  have G:=O D;clear D;have Lu:=O Ul;clear Ul AU;go_wp2_with fail;refine (C m (aaJ _) .expr rfl _ (k4+1) _ _ _ t.o.ps (by omega) (by rw [t.o.len];omega) (by rw [t.o.ns];exact v.o) (by rw [t.o.ns];exact G.o)).mono ?_;rintro e w6⟨rfl,ext6,XB,ha6⟩;have XP:=O (aW G.o (by omega) v.o (Ids.nil _) (by simp));have gl6:=XP.o.lo;have gf6:=XP.o.few;have ge6:=XP.o.le;have gn6:=XP.o.len;simp only [Job.reads] at gl6
  have n_:=O (ha6.blk t.o.ps oW.o (by decide) (by decide));clear oW;have x:=O XP.o.wf;have ow:=O (t.o.trans ha6);clear t;clear ha6;rcases dO Lu.o with ⟨D9,ZP⟩ | ⟨D9,rfl⟩
  rotate_left
  ·have Qk:=O D9;clear D9;go_wp2_with fail;refine (gQ g tv l en iv hF [101,108,115,101] (.inl (by decide +kernel)) _ k6 _ _ ow.o.ps (by omega) Qk.o).mono ?_;rintro e w7⟨rfl,nI⟩;unfold aI;go_wp2_with fail;exact⟨rfl,aR.bad rfl ((H.o.low ow.o.mv).trans (nI.mono (aaK ow.o.ps.lt)))⟩
  have HR7:=O ZP;clear ZP Lu;have hlt7:=aP D9 (by simp);have Qk:=O D9;clear D9;go_wp2_with fail;refine (eZ g tv l en iv hF [101,108,115,101] (.inl (by decide +kernel)) _ k6 _ _ ow.o.ps (by omega) Qk.o).mono ?_;rintro e w7⟨rfl,p7,m7⟩;have J:=O (ow.o.ps.aU m7 n_.o);clear n_;have E:=O (ow.o.step p7 m7);clear ow;clear p7 m7;rcases dW HR7.o with ⟨Ib,k8,ns8,EG,Oy⟩ | ⟨kb8,EG,rfl⟩
  rotate_left
  ·have LJ:=O EG;clear EG;have fH:=J.o.cell 0;have fQ:=J.o.cell 1;have fT:=J.o.cell 2;have sl0:=J.o.lt;go_wp2_with fail;refine wp_region_held_drew (S:=fun c=>c.cell? ⟨w1.heap.size,0,none⟩=some (.int .u8 (tg l k).kind)∧c.cell? ⟨w1.heap.size,1,none⟩=some (.string (aM (tx l k)))∧c.cell? ⟨w1.heap.size,2,none⟩=some (.int .i64 (pl l en k))) (by kernel_rfl) ⟨fH,fQ,fT⟩ (fun a=>?_);refine bf 0 rfl a ?_;simp only [Act.put,aaA,aaB,aaC];refine bf 1 rfl a ?_;simp only [Act.put,aaA,aaB,aaC];refine bf 2 rfl a ?_;simp only [Act.put,aaA,aaB,aaC];refine bf 3 rfl a ?_;simp only [Act.put,aaA,aaB,aaC];refine bf 4 rfl a ?_;simp only [Act.put,aaA,aaB,aaC];refine wpAnyH_ready (rs:=[5]) (by kernel_rfl) (by simp) ?_;refine fJ (.s (.s (.s (.s (.s .z))))) (fun K hK=>?_);go_simp;refine (C m (aaJ _) .expr rfl _ (k6+1) _ _ _ E.o.ps.drew (by omega) (by rw [E.o.len];omega) (by rw [E.o.ns];exact x.o) (by rw [E.o.ns];exact LJ.o)).mono ?_;rintro e w8⟨rfl,tZ⟩;unfold aI;go_wp2_with fail;exact⟨rfl,aR.bad rfl ((Below.drew (H.o.low E.o.mv)).trans tZ)⟩
  have LJ:=O EG;clear EG;have U5:=O Oy;clear Oy HR7;have Je:=O (aW LJ.o (by omega) x.o (Ids.nil _) (by simp));have gl8:=Je.o.lo;have gf8:=Je.o.few;have ge8:=Je.o.le;have gn8:=Je.o.len;simp only [Job.reads] at gl8
  have fH:=J.o.cell 0;have fQ:=J.o.cell 1;have fT:=J.o.cell 2;have sl0:=J.o.lt;go_wp2_with fail
  go_region_held3 (fun c=>c.cell? ⟨w1.heap.size,0,none⟩=some (.int .u8 (tg l k).kind)∧c.cell? ⟨w1.heap.size,1,none⟩=some (.string (aM (tx l k)))∧c.cell? ⟨w1.heap.size,2,none⟩=some (.int .i64 (pl l en k)))
   (first | go_keep|(go_split_ands;refine⟨?_,?_,?_⟩ <;> assumption))
   (first
    | (go_at_call 210;refine (C m (aaJ _) .expr rfl _ (k6+1) _ _ _ E.o.ps.drew (by omega) (by rw [E.o.len];omega) (by rw [E.o.ns];exact x.o) (by rw [E.o.ns];exact LJ.o)).mono ?_;rintro e w8⟨rfl,ext8,V_,Kq⟩;have zL:=O (E.o.drew.trans Kq);have J5:=Kq.blk E.o.ps.drew J.o.drew (by decide) (by decide);have wV:=J5.cell 0;have wW:=J5.cell 1;have wX:=J5.cell 2;have Xx:=J5.lt;have YZ:=O J5;clear J5;have hz8:=zL.o.mv.size;clear Kq)
    | (go_at_call 204;refine (gB g tv l en iv ns8.length 19 _ _ _ [] 0 _ [hd ks4,hd ks6,hd Ib] _ k8 _ _ (zL.o.ps.alloc _) (VX w8 (hd ks4) (hd ks6) (hd Ib)) zL.o.len (by omega)).mono ?_;rintro e w9⟨rfl,nv9,p9,m9⟩;have Ue:=m9.blk (YZ.o.alloc _) (zL.o.ps.tag YZ.o (by decide) (by decide)).1 (zL.o.ps.tag YZ.o (by decide) (by decide)).2;have wY:=Ue.cell 0;have wZ:=Ue.cell 1;have w_:=Ue.cell 2;clear Ue;have vK:=O ((At.alloc zL.o _).add p9 m9 (by intro b hb;simp [Value.ownBlock] at hb;omega));clear p9 m9))
  all_goals
   obtain rfl:=dV U5.o;go_wp2_with fail;go_ret;exact aR.ok rfl vK.o
 ·skip;have X:=O i;clear i;have F:=O A;clear A;go_wp2_with fail;refine (kN g tv l en iv hF [105,102] (.inl (by decide +kernel)) _ k _ _ Y.o.ps (by omega) X.o).mono ?_;rintro e Qv⟨rfl,Vx⟩;have o_:=O (og.o.below Vx og.o.lt);clear og;have vO:=O (Y.o.below Vx);clear Y;clear Vx;rcases gG F.o with ⟨D6,Oq⟩ | ⟨D6,Oq⟩
  ·skip;have hlt11:=aP D6 (by simp);have QM:=O D6;clear D6;have U4:=O Oq;clear Oq;go_wp2_with fail;refine (jg g tv l en iv hF [108,101,116] (.inl (by decide +kernel)) _ k _ _ vO.o.ps (by omega) QM.o).mono ?_;rintro e wQ⟨rfl,p12,m12⟩;have oD:=O (vO.o.ps.aU m12 o_.o);clear o_;have mo:=O (vO.o.step p12 m12);clear vO;clear p12 m12;rcases gH U4.o with ⟨pV,yh⟩ | ⟨pV,rfl⟩
   rotate_left
   ·have zM:=O pV;clear pV;go_wp2_with fail;refine (mX g tv l en iv hF _ (k+1) _ _ mo.o.ps (by omega) zM.o).mono ?_;rintro e Q⟨rfl,RQ⟩;unfold aI;go_wp2_with fail;exact⟨rfl,aR.bad rfl ((H.o.low mo.o.mv).trans (RQ.mono (aaK mo.o.ps.lt)))⟩
   have zN:=O yh;clear yh U4;have ZG:=fA pV (by simp);have zM:=O pV;clear pV;go_wp2_with fail;refine (lC g tv l en iv hF _ (k+1) _ _ mo.o.ps (by omega) zM.o).mono ?_;rintro e Q⟨rfl,p13,m13⟩;have vP:=O (mo.o.ps.aU m13 oD.o);clear oD;have qw:=O (mo.o.step p13 m13);clear mo;clear p13 m13;unfold jl;have Nl:=O (vP.o.alloc (.cells #[.int .u8 (tg l (k+1)).kind,.string (aM (tx l (k+1))),.int .i64 (pl l en (k+1))] 68));clear vP;have R:=O (aC.new Q 68 #[.int .u8 (tg l (k+1)).kind,.string (aM (tx l (k+1))),.int .i64 (pl l en (k+1))]);have W:=O (qw.o.alloc (.cells #[.int .u8 (tg l (k+1)).kind,.string (aM (tx l (k+1))),.int .i64 (pl l en (k+1))] 68));clear qw;rcases dO zN.o with ⟨uY,G8⟩ | ⟨uY,rfl⟩
   rotate_left
   ·have F4:=O uY;clear uY;go_wp2_with fail;refine (gQ g tv l en iv hF [61] (.inr (by decide +kernel)) _ ((k+1)+1) _ _ W.o.ps (by omega) F4.o).mono ?_;rintro e Tx⟨rfl,RU⟩;unfold aI;go_wp2_with fail;exact⟨rfl,aR.bad rfl ((H.o.low W.o.mv).trans (RU.mono (aaK W.o.ps.lt)))⟩
   have Jq:=O G8;clear G8 zN;have hlt14:=aP uY (by simp);have F4:=O uY;clear uY;go_wp2_with fail;refine (eZ g tv l en iv hF [61] (.inr (by decide +kernel)) _ ((k+1)+1) _ _ W.o.ps (by omega) F4.o).mono ?_;rintro e Tx⟨rfl,p14,L⟩;have oF:=O (W.o.ps.aU L Nl.o);have FU:=O (W.o.ps.aU L R.o);clear Nl R;have n:=O (W.o.step p14 L);clear W;clear p14 L;rcases dW Jq.o with ⟨T,I,ns15,G_,G9⟩ | ⟨kb15,G_,rfl⟩
   rotate_left
   ·have LG:=O G_;clear G_;go_wp2_with fail;refine (C m (aaJ _) .expr rfl _ (((k+1)+1)+1) _ _ _ n.o.ps (by omega) (by rw [n.o.len];omega) (by rw [n.o.ns];exact d.o) (by rw [n.o.ns];exact LG.o)).mono ?_;rintro e JM⟨rfl,RV⟩;unfold aI;go_wp2_with fail;exact⟨rfl,aR.bad rfl ((H.o.low n.o.mv).trans RV)⟩
   have LG:=O G_;clear G_;have Ls:=O G9;clear G9 Jq;go_wp2_with fail;refine (C m (aaJ _) .expr rfl _ (((k+1)+1)+1) _ _ _ n.o.ps (by omega) (by rw [n.o.len];omega) (by rw [n.o.ns];exact d.o) (by rw [n.o.ns];exact LG.o)).mono ?_;rintro e JM⟨rfl,ext15,aav,Oj⟩;have FR:=O (aW LG.o (by omega) d.o (Ids.nil _) (by simp));have gl15:=FR.o.lo;have gf15:=FR.o.few;have ge15:=FR.o.le;have gn15:=FR.o.len;simp only [Job.reads] at gl15
   have nU:=O (Oj.blk n.o.ps oF.o (by decide) (by decide));have QA:=O (Oj.blk n.o.ps FU.o (by decide) (by decide));clear oF FU;have TT:=O FR.o.wf;have V:=O (n.o.trans Oj);clear n;clear Oj;rcases dO Ls.o with ⟨uZ,Ou⟩ | ⟨uZ,rfl⟩
   rotate_left
   ·have F5:=O uZ;clear uZ;go_wp2_with fail;refine (gQ g tv l en iv hF [105,110] (.inl (by decide +kernel)) _ I _ _ V.o.ps (by omega) F5.o).mono ?_;rintro e w16⟨rfl,Zz⟩;unfold aI;go_wp2_with fail;exact⟨rfl,aR.bad rfl ((H.o.low V.o.mv).trans (Zz.mono (aaK V.o.ps.lt)))⟩
   have Q0:=O Ou;clear Ou Ls;have hlt16:=aP uZ (by simp);have F5:=O uZ;clear uZ;go_wp2_with fail;refine (eZ g tv l en iv hF [105,110] (.inl (by decide +kernel)) _ I _ _ V.o.ps (by omega) F5.o).mono ?_;rintro e w16⟨rfl,p16,M⟩;have P:=O (V.o.ps.aU M nU.o);have xK:=O (V.o.ps.aU M QA.o);clear nU QA;have u:=O (V.o.step p16 M);clear V;clear p16 M;rcases dW Q0.o with ⟨OM,k17,ns17,He,ZM⟩ | ⟨kb17,He,rfl⟩
   rotate_left
   ·have LH:=O He;clear He;have fH:=P.o.cell 0;have fQ:=P.o.cell 1;have fT:=P.o.cell 2;have sl0:=P.o.lt;have rD:=xK.o.cell 1;have sl1:=xK.o.lt;go_wp2_with fail;refine wp_region_held_drew (S:=fun c=>c.cell? ⟨w1.heap.size,0,none⟩=some (.int .u8 (tg l k).kind)∧c.cell? ⟨w1.heap.size,1,none⟩=some (.string (aM (tx l k)))∧c.cell? ⟨w1.heap.size,2,none⟩=some (.int .i64 (pl l en k))∧c.cell? ⟨Q.heap.size,1,none⟩=some (.string (aM (tx l (k+1))))) (by kernel_rfl) ⟨fH,fQ,fT,rD⟩ (fun a=>?_);refine bf 0 rfl a ?_;simp only [Act.put,aaA,aaB,aaC];refine bf 1 rfl a ?_;simp only [Act.put,aaA,aaB,aaC];refine bf 2 rfl a ?_;simp only [Act.put,aaA,aaB,aaC];refine bf 3 rfl a ?_;simp only [Act.put,aaA,aaB,aaC];refine bf 4 rfl a ?_;simp only [Act.put,aaA,aaB,aaC];refine bf 5 rfl a ?_;simp only [Act.put,aaA,aaB,aaC];refine wpAnyH_ready (rs:=[6]) (by kernel_rfl) (by simp) ?_;refine fJ (.s (.s (.s (.s (.s (.s .z)))))) (fun K hK=>?_);go_simp;refine (C m (aaJ _) .expr rfl _ (I+1) _ _ _ u.o.ps.drew (by omega) (by rw [u.o.len];omega) (by rw [u.o.ns];exact TT.o) (by rw [u.o.ns];exact LH.o)).mono ?_;rintro e w17⟨rfl,zW⟩;unfold aI;go_wp2_with fail;exact⟨rfl,aR.bad rfl ((Below.drew (H.o.low u.o.mv)).trans zW)⟩
   have LH:=O He;clear He;have HR17:=O ZM;clear ZM Q0;have Jl:=O (aW LH.o (by omega) TT.o (Ids.nil _) (by simp));have gl17:=Jl.o.lo;have gf17:=Jl.o.few;have ge17:=Jl.o.le;have gn17:=Jl.o.len;simp only [Job.reads] at gl17
   have fH:=P.o.cell 0;have fQ:=P.o.cell 1;have fT:=P.o.cell 2;have sl0:=P.o.lt;have rD:=xK.o.cell 1;have sl1:=xK.o.lt;go_wp2_with fail
   go_region_held3 (fun c=>c.cell? ⟨w1.heap.size,0,none⟩=some (.int .u8 (tg l k).kind)∧c.cell? ⟨w1.heap.size,1,none⟩=some (.string (aM (tx l k)))∧c.cell? ⟨w1.heap.size,2,none⟩=some (.int .i64 (pl l en k))∧c.cell? ⟨Q.heap.size,1,none⟩=some (.string (aM (tx l (k+1)))))
    (first | go_keep|(go_split_ands;refine⟨?_,?_,?_,?_⟩ <;> assumption))
    (first
     | (go_at_call 210;refine (C m (aaJ _) .expr rfl _ (I+1) _ _ _ u.o.ps.drew (by omega) (by rw [u.o.len];omega) (by rw [u.o.ns];exact TT.o) (by rw [u.o.ns];exact LH.o)).mono ?_;rintro e w17⟨rfl,ext17,nv17,G5⟩;have U:=O (u.o.drew.trans G5);have DN:=G5.blk u.o.ps.drew P.o.drew (by decide) (by decide);have wV:=DN.cell 0;have wW:=DN.cell 1;have wX:=DN.cell 2;have Xx:=DN.lt;have Ri:=O DN;clear DN;have LW:=G5.blk u.o.ps.drew xK.o.drew (by decide) (by decide);have Zl:=LW.cell 1;have dl1:=LW.lt;have Rj:=O LW;clear LW;have hz17:=U.o.mv.size;clear G5)
     | (go_at_call 204;refine (gB g tv l en iv ns17.length 20 _ _ _ (tx l (k+1)) 0 _ [hd T,hd OM] _ k17 _ _ (U.o.ps.alloc _) (ug w17 (hd T) (hd OM)) U.o.len (by omega)).mono ?_;rintro e w18⟨rfl,nv18,p18,N⟩;have LX:=N.blk (Ri.o.alloc _) (U.o.ps.tag Ri.o (by decide) (by decide)).1 (U.o.ps.tag Ri.o (by decide) (by decide)).2;have wY:=LX.cell 0;have wZ:=LX.cell 1;have w_:=LX.cell 2;clear LX;have Ze:=N.blk (Rj.o.alloc _) (U.o.ps.tag Rj.o (by decide) (by decide)).1 (U.o.ps.tag Rj.o (by decide) (by decide)).2;have Zn:=Ze.cell 1;clear Ze;have EX:=O ((At.alloc U.o _).add p18 N (by intro b hb;simp [Value.ownBlock] at hb;omega));clear p18 N))
   all_goals
    obtain rfl:=dV HR17.o;go_wp2_with fail;go_ret;exact aR.ok rfl EX.o
  ·skip;have QM:=O D6;clear D6;have U4:=O Oq;clear Oq;go_wp2_with fail;refine (kN g tv l en iv hF [108,101,116] (.inl (by decide +kernel)) _ k _ _ vO.o.ps (by omega) QM.o).mono ?_;rintro e w19⟨rfl,y⟩;have QE:=O (o_.o.below y o_.o.lt);clear o_;have tJ:=O (vO.o.below y);clear vO;clear y;have HX:=O U4.o;go_wp2_with fail;have HQ:=O (C m (aaJ _) (.lv .or) rfl _ k _ _ r tJ.o.ps (by omega) (by rw [tJ.o.len];omega) (by rw [tJ.o.ns];exact d.o) (by rw [tJ.o.ns];exact HX.o))
   cases r with
   | bad kb =>
    refine HQ.o.mono ?_;rintro e wq⟨rfl,hbq⟩;unfold aI;go_wp2_with fail;exact⟨rfl,aR.bad rfl ((H.o.low tJ.o.mv).trans hbq)⟩
   | ok ksq kq nsq =>
    refine HQ.o.mono ?_;rintro e wq⟨rfl,extq,nvq,haq⟩;have HAQ:=O (tJ.o.trans haq);clear haq;go_wp2_with fail;go_ret;exact aR.ok rfl HAQ.o
end
section
variable {g:Nat} {tv:Value} {l:List Tok} {en:Int} {iv:Value} (hF:PF l)
include hF
theorem part_put (m:Nat)(C:∀ f,f≤m→∀ j,isFn j=true→IC g tv l en iv f j)(CL:∀ f,f≤m→∀ e,LC g tv l en iv f e):IC g tv l en iv (m+1) .put:=by
 intro w k xs nv r h hk hn hw W;have H:=O h;clear h;have J:=O (At.refl H.o);have u:=O hw;clear hw;have hn0:(aA xs).length≤k:=by rw [aD];exact hn
 have hlen:=hF.len;rw [run] at W
 unfold t_;go_enter Tryz.func260,Tryz.ntmps260
 have qm:=O W;clear W;rcases gH qm.o with ⟨d,F⟩ | ⟨d,rfl⟩
 rotate_left
 ·have xM:=O d;clear d;go_wp2_with fail;refine (mX g tv l en iv hF _ k _ _ J.o.ps (by omega) xM.o).mono ?_;rintro e w1⟨rfl,T⟩;unfold aI;go_wp2_with fail;exact⟨rfl,aR.bad rfl ((H.o.low J.o.mv).trans (T.mono (aaK J.o.ps.lt)))⟩
 have D:=O F;clear F qm;have hlt1:=fA d (by simp);have xM:=O d;clear d;go_wp2_with fail;refine (lC g tv l en iv hF _ k _ _ J.o.ps (by omega) xM.o).mono ?_;rintro e w1⟨rfl,p1,m1⟩;have B:=O (J.o.step p1 m1);skip;clear p1 m1;unfold jl;have og:=O (aC.new w1 68 #[.int .u8 (tg l k).kind,.string (aM (tx l k)),.int .i64 (pl l en k)]);have v:=O (B.o.alloc (.cells #[.int .u8 (tg l k).kind,.string (aM (tx l k)),.int .i64 (pl l en k)] 68));clear B;rcases dO D.o with ⟨i,G⟩ | ⟨i,rfl⟩
 rotate_left
 ·have t:=O i;clear i;go_wp2_with fail;refine (gQ g tv l en iv hF [58] (.inr (by decide +kernel)) _ (k+1) _ _ v.o.ps (by omega) t.o).mono ?_;rintro e w2⟨rfl,U⟩;unfold aI;go_wp2_with fail;exact⟨rfl,aR.bad rfl ((H.o.low v.o.mv).trans (U.mono (aaK v.o.ps.lt)))⟩
 have E:=O G;clear G D;have hlt2:=aP i (by simp);have t:=O i;clear i;go_wp2_with fail;refine (eZ g tv l en iv hF [58] (.inr (by decide +kernel)) _ (k+1) _ _ v.o.ps (by omega) t.o).mono ?_;rintro e w2⟨rfl,p2,X⟩;have q:=O (v.o.ps.aU X og.o);clear og;have a:=O (v.o.step p2 X);clear v;clear p2 X;rcases dW E.o with ⟨Uq,k3,uK,n,I⟩ | ⟨kb3,n,rfl⟩
 rotate_left
 ·have M:=O n;clear n;have fH:=q.o.cell 0;have fQ:=q.o.cell 1;have fT:=q.o.cell 2;have sl0:=q.o.lt;go_wp2_with fail;refine wp_region_held_drew (S:=fun x=>x.cell? ⟨w1.heap.size,0,none⟩=some (.int .u8 (tg l k).kind)∧x.cell? ⟨w1.heap.size,1,none⟩=some (.string (aM (tx l k)))∧x.cell? ⟨w1.heap.size,2,none⟩=some (.int .i64 (pl l en k))) (by kernel_rfl) ⟨fH,fQ,fT⟩ (fun c=>?_);refine bf 0 rfl c ?_;simp only [Act.put,aaA,aaB,aaC];refine bf 1 rfl c ?_;simp only [Act.put,aaA,aaB,aaC];refine bf 2 rfl c ?_;simp only [Act.put,aaA,aaB,aaC];refine bf 3 rfl c ?_;simp only [Act.put,aaA,aaB,aaC];refine bf 4 rfl c ?_;simp only [Act.put,aaA,aaB,aaC];refine wpAnyH_ready (rs:=[5]) (by kernel_rfl) (by simp) ?_;refine fJ (.s (.s (.s (.s (.s .z))))) (fun K hK=>?_);go_simp;refine (C m (aaJ _) .expr rfl _ ((k+1)+1) _ _ _ a.o.ps.drew (by omega) (by rw [a.o.len];omega) (by rw [a.o.ns];exact u.o) (by rw [a.o.ns];exact M.o)).mono ?_;rintro e w3⟨rfl,V⟩;unfold aI;go_wp2_with fail;exact⟨rfl,aR.bad rfl ((Below.drew (H.o.low a.o.mv)).trans V)⟩
 have M:=O n;clear n;have Q:=O I;clear I E;have L:=O (aW M.o (by omega) u.o (Ids.nil _) (by simp));have R:=L.o.lo;have gf3:=L.o.few;have ge3:=L.o.le;have gn3:=L.o.len;simp only [Job.reads] at R
 have fH:=q.o.cell 0;have fQ:=q.o.cell 1;have fT:=q.o.cell 2;have sl0:=q.o.lt;go_wp2_with fail
 go_region_held3 (fun x=>x.cell? ⟨w1.heap.size,0,none⟩=some (.int .u8 (tg l k).kind)∧x.cell? ⟨w1.heap.size,1,none⟩=some (.string (aM (tx l k)))∧x.cell? ⟨w1.heap.size,2,none⟩=some (.int .i64 (pl l en k)))
  (first | go_keep|(go_split_ands;refine⟨?_,?_,?_⟩ <;> assumption))
  (first
   | (go_at_call 210;refine (C m (aaJ _) .expr rfl _ ((k+1)+1) _ _ _ a.o.ps.drew (by omega) (by rw [a.o.len];omega) (by rw [a.o.ns];exact u.o) (by rw [a.o.ns];exact M.o)).mono ?_;rintro e w3⟨rfl,ext3,FM,P⟩;have y:=O (a.o.drew.trans P);have A:=P.blk a.o.ps.drew q.o.drew (by decide) (by decide);have wV:=A.cell 0;have wW:=A.cell 1;have wX:=A.cell 2;have Xx:=A.lt;have Z:=O A;clear A;have hz3:=y.o.mv.size;clear P)
   | (go_at_call 204;refine (gB g tv l en iv uK.length 25 _ _ _ (tx l k) 0 _ [hd Uq] _ k3 _ _ (y.o.ps.alloc _) (rH w3 (hd Uq)) y.o.len (by omega)).mono ?_;rintro e w4⟨rfl,yH,p4,Y⟩;have N:=Y.blk (Z.o.alloc _) (y.o.ps.tag Z.o (by decide) (by decide)).1 (y.o.ps.tag Z.o (by decide) (by decide)).2;have wY:=N.cell 0;have wZ:=N.cell 1;have w_:=N.cell 2;clear N;have fq:=O ((At.alloc y.o _).add p4 Y (by intro b hb;simp [Value.ownBlock] at hb;omega));clear p4 Y))
 all_goals
  obtain rfl:=dV Q.o;go_wp2_with fail;go_ret;exact aR.ok rfl fq.o
end
section
variable {g:Nat} {tv:Value} {l:List Tok} {en:Int} {iv:Value} (hF:PF l)
include hF
theorem Sw (m:Nat)(C:∀ f,f≤m→∀ j,isFn j=true→IC g tv l en iv f j)(CL:∀ f,f≤m→∀ e,LC g tv l en iv f e):IC g tv l en iv (m+1) .param:=by
 intro w k xs nv r h hk hn hw W;have H:=O h;clear h;have J:=O (At.refl H.o);have u:=O hw;clear hw;have hn0:(aA xs).length≤k:=by rw [aD];exact hn
 have hlen:=hF.len;rw [run] at W
 unfold t_;go_enter Tryz.func206,Tryz.ntmps206
 have qm:=O W;clear W;rcases gH qm.o with ⟨d,F⟩ | ⟨d,rfl⟩
 rotate_left
 ·have xM:=O d;clear d;go_wp2_with fail;refine (mX g tv l en iv hF _ k _ _ J.o.ps (by omega) xM.o).mono ?_;rintro e w1⟨rfl,T⟩;unfold aI;go_wp2_with fail;exact⟨rfl,aR.bad rfl ((H.o.low J.o.mv).trans (T.mono (aaK J.o.ps.lt)))⟩
 have D:=O F;clear F qm;have hlt1:=fA d (by simp);have xM:=O d;clear d;go_wp2_with fail;refine (lC g tv l en iv hF _ k _ _ J.o.ps (by omega) xM.o).mono ?_;rintro e w1⟨rfl,p1,m1⟩;have B:=O (J.o.step p1 m1);skip;clear p1 m1;unfold jl;have og:=O (aC.new w1 68 #[.int .u8 (tg l k).kind,.string (aM (tx l k)),.int .i64 (pl l en k)]);have v:=O (B.o.alloc (.cells #[.int .u8 (tg l k).kind,.string (aM (tx l k)),.int .i64 (pl l en k)] 68));clear B;rcases dO D.o with ⟨i,G⟩ | ⟨i,rfl⟩
 rotate_left
 ·have t:=O i;clear i;go_wp2_with fail;refine (gQ g tv l en iv hF [58] (.inr (by decide +kernel)) _ (k+1) _ _ v.o.ps (by omega) t.o).mono ?_;rintro e w2⟨rfl,U⟩;unfold aI;go_wp2_with fail;exact⟨rfl,aR.bad rfl ((H.o.low v.o.mv).trans (U.mono (aaK v.o.ps.lt)))⟩
 have E:=O G;clear G D;have hlt2:=aP i (by simp);have t:=O i;clear i;go_wp2_with fail;refine (eZ g tv l en iv hF [58] (.inr (by decide +kernel)) _ (k+1) _ _ v.o.ps (by omega) t.o).mono ?_;rintro e w2⟨rfl,p2,X⟩;have q:=O (v.o.ps.aU X og.o);clear og;have a:=O (v.o.step p2 X);clear v;clear p2 X;rcases dW E.o with ⟨Uq,k3,uK,n,I⟩ | ⟨kb3,n,rfl⟩
 rotate_left
 ·have M:=O n;clear n;have fH:=q.o.cell 0;have fQ:=q.o.cell 1;have fT:=q.o.cell 2;have sl0:=q.o.lt;go_wp2_with fail;refine wp_region_held_drew (S:=fun x=>x.cell? ⟨w1.heap.size,0,none⟩=some (.int .u8 (tg l k).kind)∧x.cell? ⟨w1.heap.size,1,none⟩=some (.string (aM (tx l k)))∧x.cell? ⟨w1.heap.size,2,none⟩=some (.int .i64 (pl l en k))) (by kernel_rfl) ⟨fH,fQ,fT⟩ (fun c=>?_);refine bf 0 rfl c ?_;simp only [Act.put,aaA,aaB,aaC];refine bf 1 rfl c ?_;simp only [Act.put,aaA,aaB,aaC];refine bf 2 rfl c ?_;simp only [Act.put,aaA,aaB,aaC];refine bf 3 rfl c ?_;simp only [Act.put,aaA,aaB,aaC];refine bf 4 rfl c ?_;simp only [Act.put,aaA,aaB,aaC];refine wpAnyH_ready (rs:=[5]) (by kernel_rfl) (by simp) ?_;refine fJ (.s (.s (.s (.s (.s .z))))) (fun K hK=>?_);go_simp;refine (C m (aaJ _) .typ rfl _ ((k+1)+1) _ _ _ a.o.ps.drew (by omega) (by rw [a.o.len];omega) (by rw [a.o.ns];exact u.o) (by rw [a.o.ns];exact M.o)).mono ?_;rintro e w3⟨rfl,V⟩;unfold aI;go_wp2_with fail;exact⟨rfl,aR.bad rfl ((Below.drew (H.o.low a.o.mv)).trans V)⟩
 have M:=O n;clear n;have Q:=O I;clear I E;have L:=O (aW M.o (by omega) u.o (Ids.nil _) (by simp));have R:=L.o.lo;have gf3:=L.o.few;have ge3:=L.o.le;have gn3:=L.o.len;simp only [Job.reads] at R
 have fH:=q.o.cell 0;have fQ:=q.o.cell 1;have fT:=q.o.cell 2;have sl0:=q.o.lt;go_wp2_with fail
 go_region_held3 (fun x=>x.cell? ⟨w1.heap.size,0,none⟩=some (.int .u8 (tg l k).kind)∧x.cell? ⟨w1.heap.size,1,none⟩=some (.string (aM (tx l k)))∧x.cell? ⟨w1.heap.size,2,none⟩=some (.int .i64 (pl l en k)))
  (first | go_keep|(go_split_ands;refine⟨?_,?_,?_⟩ <;> assumption))
  (first
   | (go_at_call 207;refine (C m (aaJ _) .typ rfl _ ((k+1)+1) _ _ _ a.o.ps.drew (by omega) (by rw [a.o.len];omega) (by rw [a.o.ns];exact u.o) (by rw [a.o.ns];exact M.o)).mono ?_;rintro e w3⟨rfl,ext3,FM,P⟩;have y:=O (a.o.drew.trans P);have A:=P.blk a.o.ps.drew q.o.drew (by decide) (by decide);have wV:=A.cell 0;have wW:=A.cell 1;have wX:=A.cell 2;have Xx:=A.lt;have Z:=O A;clear A;have hz3:=y.o.mv.size;clear P)
   | (go_at_call 204;refine (gB g tv l en iv uK.length 34 _ _ _ (tx l k) 0 _ [hd Uq] _ k3 _ _ (y.o.ps.alloc _) (rH w3 (hd Uq)) y.o.len (by omega)).mono ?_;rintro e w4⟨rfl,yH,p4,Y⟩;have N:=Y.blk (Z.o.alloc _) (y.o.ps.tag Z.o (by decide) (by decide)).1 (y.o.ps.tag Z.o (by decide) (by decide)).2;have wY:=N.cell 0;have wZ:=N.cell 1;have w_:=N.cell 2;clear N;have fq:=O ((At.alloc y.o _).add p4 Y (by intro b hb;simp [Value.ownBlock] at hb;omega));clear p4 Y))
 all_goals
  obtain rfl:=dV Q.o;go_wp2_with fail;go_ret;exact aR.ok rfl fq.o
end
end Go.Proofs.YthepmkjggfijoaaGreatDoor
